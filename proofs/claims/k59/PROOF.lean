import PyProof.Rows.All
import Wide.All
import OpenK.AllK
import Wide.FinOn
import HandS.ForMost
import HandS.Wide
import HandS.Dict
import HandS.Small
import KE.KDictKeyed
import HandS.EndBits
import HandS.Gcd
import HandS.WideBits
import HandS.IsInst
import HandS.Flt
import HandS.More
import Flt.RightSqrt
import HandS.Style
import HandS.Steps
import HandS.MakeKwOnly
import HandS.TupAny
import KE.KExcSuper
import HandS.ExcField
import HandS.ExcOwn
import HandS.CallSlots
import HandS.WordsExc
import HandS.Comp
import PyProof.WalkInts
import HandS.SortKw
import HandS.ExcIs
import KE.KExcIs
import HandS.Codes
import KE.GoesEnumKw
import HandS.FStr
import HandS.Star
import HandS.StrMore
import HandS.TryOnly
import HandS.Strs
import HandS.HeadHook1
import HandS.Property
import HandS.Conv
import HandS.RaiseMore
import PyProof.ReprRoads
import PyProof.ReprLen
import KE.KStateDown
import HandS.Head0
import HandS.Head1
import HandS.Head2
import HandS.Head3
import HandS.HeadEnd
import HandS.HeadHook2
import PySem.Challenge.RW_armwarrant_k59_names_and_landings_in_flo
set_option Elab.async false
set_option linter.all false
set_option maxRecDepth 100000
set_option maxHeartbeats 4000000
/-! Dl0: the end over a head that is run in the kernel; what the written part says, by one look at its heap -/
namespace Hd
open PySem PySem.Spec PyProof.Rows He
abbrev Ck : Type := PySem.W.Frag → Bool
/-- the keyword-only default x of the def at f, if it is an object -/
def kwAt (f : Str × Option Str) (x : Str) (K : PySem.W.Frag) : Addr := match K.lookup (fAd K f) with
  | some ⟨_, _, .func fd, _⟩ => (match fd.kwdefaults with
    | .ref D => (match PySem.W.nsIn K D x with
      | some (some (.ref a)) => a
      | _ => 0)
    | _ => 0)
  | _ => 0
/-- the module's name x is a plain tuple (without a dict of its own)-/
def ptupB (K : PySem.W.Frag) (a : Addr) : Bool := match K.lookup a with
  | some ⟨.type c, none, _, _⟩ => decide (c = "tuple")
  | _ => false
def nulB (K : PySem.W.Frag) (a : Addr) : Bool := match K.lookup a with
  | some ⟨.type c, _, .seq its _, _⟩ => decide (c = "tuple") && its.toList.isEmpty
  | _ => false
/-! ### own exceptions -/
abbrev FnY : Type := Option (Str × Str × Arguments × FuncBody × Scope × Addr × Addr)
def fnY (K : PySem.W.Frag) (f : Addr) : FnY := match K.lookup f with
  | some ⟨_, _, .func fd, _⟩ => some (fd.name, fd.qualname, fd.params, fd.body, fd.scope, fd.globals, fd.builtins)
  | _ => none
structure ExD where
  cls : Str
  qual : Str
  params : Arguments
  body : List Stmt
  scope : Scope
  meth : Str
  prop : Bool
def ExD.val (d : ExD) : FnY := some (d.meth, d.qual, d.params, .stmts d.body, d.scope, mainGlobals, builtinsNs)
/-- a property's getter -/
def prG (K : PySem.W.Frag) (p : Addr) : Addr := match PySem.W.recIn K p "property" with
  | some (.ref g :: _) => g
  | _ => 0
def exAd (K : PySem.W.Frag) (d : ExD) : Addr := if d.prop = true then prG K (ma K (ga K d.cls) d.meth) else ma K (ga K d.cls) d.meth
def prRB (K : PySem.W.Frag) (p : Addr) : Bool := match PySem.W.recIn K p "property" with
  | some (.ref _ :: _) => true
  | _ => false
theorem prR_ok {K : PySem.W.Frag} {p : Addr} (h : prRB K p = true) : ∃ rest, PySem.W.recIn K p "property" = some (.ref (prG K p) :: rest) := by
  unfold prRB at h
  unfold prG
  split at h
  · rename_i g rest e
    rw [e]
    exact ⟨rest, rfl⟩
  · cases h
def prB (K : PySem.W.Frag) (g : Addr) (q : Str) : Bool := PySem.W.keepIn K (.ref g) && match K.lookup g with
  | some ⟨_, _, .func fd, _⟩ => fd.closure.isEmpty && (PySem.W.codeIn K fd.code q && (dflB K fd.defaults [] && kwdB K fd.kwdefaults []))
  | _ => false
theorem pr_ok {K : PySem.W.Frag} {g : Addr} {d : ExD} (e : fnY K g = d.val) (h : prB K g d.qual = true) : ∃ fd, L2.FunD K d.meth d.qual d.params d.body d.scope [] [] g fd := by
  unfold prB at h
  rw [Bool.and_eq_true] at h
  obtain ⟨kp, h⟩ := h
  unfold fnY at e
  cases q : K.lookup g with
  | none => rw [q] at h; cases h
  | some o =>
    obtain ⟨oc, od, dt, osl⟩ := o
    rw [q] at h e
    cases dt with
    | func fd =>
      obtain ⟨n1, n2, n3, n4, n5, n6, n7, n8, n9, n10, n11, n12, n13, n14, n15⟩ := fd
      have e2 : (some (n1, n2, n3, n4, n5, n6, n15) : FnY) = some (d.meth, d.qual, d.params, FuncBody.stmts d.body, d.scope, mainGlobals, builtinsNs) := e
      simp only [Option.some.injEq, Prod.mk.injEq] at e2
      obtain ⟨h1, h2, h3, h4, h5, h6, h9⟩ := e2
      subst h1 h2 h3 h4 h5 h6 h9
      have h : (n7.isEmpty && (PySem.W.codeIn K n13 d.qual && (dflB K n8 [] && kwdB K n9 []))) = true := h
      simp only [Bool.and_eq_true] at h
      obtain ⟨a, b, c, f⟩ := h
      have a := List.isEmpty_iff.mp a
      subst a
      exact ⟨_, ⟨oc, od, n8, n9, n10, n11, n12, n13, n14, osl, rfl, q, b, dflB_ok c, kwdB_ok f⟩, kp⟩
    | _ => cases h
def cellB (K : PySem.W.Frag) (cc C : Addr) : Bool := match K.lookup cc with
  | some ⟨_, _, .cell (some (.ref D)), _⟩ => decide (D = C)
  | _ => false
def fileB (K : PySem.W.Frag) (file : Str) (a : Addr) : Bool := match K.lookup a with
  | some ⟨_, _, .fields (vs : Array Value), _⟩ => (match (vs[2]? : Option Value) with
    | some (Value.str f _) => file == f
    | _ => false)
  | _ => false
def exB (K : PySem.W.Frag) (file : Str) (C f : Addr) : Bool := match K.lookup f with
  | some ⟨_, _, .func fd, _⟩ => (match fd.closure, fd.defaults, fd.kwdefaults, fd.code with
    | [(x, cc)], .none, .none, .ref cda => decide (x = "__class__") && (PySem.W.codeIn K (.ref cda) fd.qualname && (cellB K cc C && fileB K file cda))
    | _, _, _, _ => false)
  | _ => false
def clsB (K : PySem.W.Frag) (C : Addr) : Bool := match K.lookup C with
  | some ⟨.type t, _, .cls cd, sl⟩ => (match cd.mro, sl.toList with
    | .ref D :: bm, [_, _, _, _, some (.builtin n), _] => decide (t = "type") && (decide (D = C) && (decide (n = "ValueError.__new__") && (!cd.hasDel && (cd.hasDict && PySem.HandSPX.refsVE bm))))
    | _, _ => false)
  | _ => false
theorem cls_ok' {K : PySem.W.Frag} {C : Addr} (h : clsB K C = true) : ∃ n' q N bs bm sn sub ab col dd k0 k1 k2 k3 k5, K.lookup C = some (excClassObj n' q C N bs bm true sn sub ab col dd k0 k1 k2 k3 k5 "ValueError.__new__") ∧ PySem.HandSPX.refsVE bm = true := by
  unfold clsB at h
  split at h
  · rename_i t dd cd sl ho
    split at h
    · rename_i D bm k0 k1 k2 k3 n k5 hm hs
      simp only [Bool.and_eq_true, decide_eq_true_eq, Bool.not_eq_true'] at h
      obtain ⟨rfl, rfl, rfl, hdel, hd, hr⟩ := h
      obtain ⟨nm, bs, mro, ns, qn, hdd, sn, sub, ab, col, del⟩ := cd
      dsimp only at hm hdel hd
      subst hm hdel hd
      have hsl : sl = #[k0, k1, k2, k3, some (.builtin "ValueError.__new__"), k5] := by
        obtain ⟨l⟩ := sl
        simp only at hs
        rw [hs]
      subst hsl
      exact ⟨nm, qn, ns, bs, bm, sn, sub, ab, col, dd, k0, k1, k2, k3, k5, ho, hr⟩
    · cases h
  · cases h
theorem cell_ok {K : PySem.W.Frag} {cc C : Addr} (h : cellB K cc C = true) : ∃ (cl : Value) (cld : Option Addr) (csl : Array (Option Value)), K.lookup cc = some ⟨cl, cld, .cell (some (.ref C)), csl⟩ := by
  unfold cellB at h
  split at h
  · rename_i D sl ho
    cases of_decide_eq_true h
    exact ⟨_, _, _, ho⟩
  · cases h
theorem file_ok {K : PySem.W.Frag} {file : Str} {a : Addr} (h : fileB K file a = true) : ∃ (ccl : Value) (cdd : Option Addr) (vs : Array Value) (ccs : Array (Option Value)) (f : Str) (tf : Tok), K.lookup a = some ⟨ccl, cdd, .fields vs, ccs⟩ ∧ vs[2]? = some (.str f tf) ∧ (file == f) = true := by
  unfold fileB at h
  split at h
  · rename_i vs sl ho
    split at h
    · rename_i f tf hf
      exact ⟨_, _, vs, _, f, tf, ho, hf, h⟩
    · cases h
  · cases h
theorem ex_ok {K : PySem.W.Frag} {file : Str} {C f : Addr} {d : ExD} (e : fnY K f = d.val) (h : exB K file C f = true) (hm : d.meth = "__init__" := by rfl) : ∃ (oc : Value) (od : Option Addr) (doc pm : Value) (an : Option Addr) (cda cc : Addr) (ct : Value) (osl : Array (Option Value)),
    K.lookup f = some ⟨oc, od, .func (PySem.W.ksFn "__init__" d.qual d.params d.body d.scope .none .none doc pm an (.ref cda) ct cc), osl⟩ ∧ PySem.W.codeIn K (.ref cda) d.qual = true ∧
    (∃ (ccl : Value) (cdd : Option Addr) (vs : Array Value) (ccs : Array (Option Value)) (f : Str) (tf : Tok), K.lookup cda = some ⟨ccl, cdd, .fields vs, ccs⟩ ∧ vs[2]? = some (.str f tf) ∧ (file == f) = true) ∧
    ∃ (cl : Value) (cld : Option Addr) (csl : Array (Option Value)), K.lookup cc = some ⟨cl, cld, .cell (some (.ref C)), csl⟩ := by
  obtain ⟨dc, dq, dp, db, ds, dm, dr⟩ := d
  have hm : dm = "__init__" := hm
  subst hm
  unfold exB at h
  unfold fnY at e
  cases q : K.lookup f with
  | none => rw [q] at h; cases h
  | some o =>
    obtain ⟨oc, od, dt, osl⟩ := o
    rw [q] at h e
    cases dt with
    | func fd =>
      obtain ⟨n1, n2, n3, n4, n5, n6, n7, n8, n9, n10, n11, n12, n13, n14, n15⟩ := fd
      have e2 : (some (n1, n2, n3, n4, n5, n6, n15) : FnY) = (some (("__init__" : Str), dq, dp, FuncBody.stmts db, ds, mainGlobals, builtinsNs) : FnY) := e
      simp only [Option.some.injEq, Prod.mk.injEq] at e2
      obtain ⟨h1, h2, h3, h4, h5, h6, h9⟩ := e2
      subst h1 h2 h3 h4 h5 h6 h9
      dsimp only at h
      split at h
      · rename_i x cc cda
        simp only [Bool.and_eq_true, decide_eq_true_eq] at h
        obtain ⟨rfl, hc, hcl, hfl⟩ := h
        exact ⟨oc, od, n10, n11, n12, cda, cc, n14, osl, rfl, hc, file_ok hfl, cell_ok hcl⟩
      · cases h
    | _ => cases h
/-! ### the look -/
abbrev AlX : Type := Bool × List FnW × List FnY
def obsX (cks : List (List Ck)) (fn : List DefD) (ex : List ExD) (K : PySem.W.Frag) : AlX := ((cks.all fun l => l.all fun f => f K) && fn.all fun d => d.ok K, fn.map fun d => fnW K d.at_, ex.map fun d => fnY K (exAd K d))
def valX (fn : List DefD) (ex : List ExD) : AlX := (true, fn.map DefD.val, ex.map ExD.val)
def SaysX (cks : List (List Ck)) (fn : List DefD) (ex : List ExD) (K : PySem.W.Frag) : Prop := obsX cks fn ex K = valX fn ex
def refsA (o : Obj) : List Addr := match o.data with
  | .func fd => refV fd.code ++ (refV fd.defaults ++ (refV fd.kwdefaults ++ fd.closure.map (·.2)))
  | .cls cd => [cd.ns]
  | .seq its _ => its.toList.flatMap refV
  | .dict es _ => es.toList.flatMap fun e => refV e.val
  | .fields vs => (match o.cls with
    | .type n => if n == "property" then vs.toList.flatMap refV else []
    | _ => [])
  | _ => []
def refsAt (g : Addr → Option Obj) (a : Addr) : List Addr := match g a with
  | some o => refsA o
  | none => []
def lev (g : Addr → Option Obj) : Nat → List Addr → List Addr
  | 0, as => as
  | n + 1, as => as ++ lev g n (as.flatMap (refsAt g))
def frX (g : Addr → Option Obj) (n : Nat) : PySem.W.Frag := frG g (cStatics :: lev g n [mainGlobals])
/-! the same, each part worked out once -/
def fcL {α : Type} : List Addr → (List Addr → α) → α
  | [], k => k []
  | a :: as, k => HandSHeadRun.frNat a fun a => fcL as fun as => k (a :: as)
theorem fcL_eq {α : Type} : ∀ (as : List Addr) (k : List Addr → α), fcL as k = k as
  | [], k => rfl
  | a :: as, k => by
    show HandSHeadRun.frNat a (fun a => fcL as fun as => k (a :: as)) = _
    rw [HandSHeadRun.frNat_eq, fcL_eq as]
def levF {α : Type} (g : Addr → Option Obj) : Nat → List Addr → (List Addr → α) → α
  | 0, as, k => k as
  | n + 1, as, k => fcL (as.flatMap (refsAt g)) fun bs => levF g n bs fun cs => k (as ++ cs)
theorem levF_eq {α : Type} (g : Addr → Option Obj) : ∀ (n : Nat) (as : List Addr) (k : List Addr → α), levF g n as k = k (lev g n as)
  | 0, as, k => rfl
  | n + 1, as, k => by
    show fcL (as.flatMap (refsAt g)) (fun bs => levF g n bs fun cs => k (as ++ cs)) = _
    rw [fcL_eq, levF_eq g n]
    rfl
def fcK {α : Type} (g : Addr → Option Obj) : List Addr → (PySem.W.Frag → α) → α
  | [], k => k []
  | a :: as, k => match g a with
    | some o => fcK g as fun r => k ((a, o) :: r)
    | none => fcK g as k
theorem fcK_eq {α : Type} (g : Addr → Option Obj) : ∀ (as : List Addr) (k : PySem.W.Frag → α), fcK g as k = k (frG g as)
  | [], k => rfl
  | a :: as, k => by
    unfold fcK frG
    rw [List.filterMap_cons]
    cases q : g a with
    | none => exact fcK_eq g as k
    | some o => exact fcK_eq g as fun r => k ((a, o) :: r)
def obsXG (n : Nat) (cks : List (List Ck)) (fn : List DefD) (ex : List ExD) (g : Addr → Option Obj) : AlX := levF g n [mainGlobals] fun as => fcL (cStatics :: as) fun as => fcK g as fun K => obsX cks fn ex K
theorem obsXG_fr {n : Nat} {cks : List (List Ck)} {fn : List DefD} {ex : List ExD} {g : Addr → Option Obj} : obsXG n cks fn ex g = obsX cks fn ex (frX g n) := by
  unfold obsXG
  rw [levF_eq, fcL_eq, fcK_eq]
  rfl
def hookX (n : Nat) (cks : List (List Ck)) (fn : List DefD) (ex : List ExD) : PySem.W.Hook where
  α := AlX
  obs := fun s => obsX cks fn ex (frX s.heap.get? n)
  val := fun _ => valX fn ex
  says := fun _ h => ∃ K : PySem.W.Frag, K.In h ∧ SaysX cks fn ex K
  of := fun _ _ e => ⟨_, frG_in, e⟩
  keeps := fun _ _ _ ⟨K, hK, c⟩ k => ⟨K, PySem.W.Frag.In.keeps hK k, c⟩
theorem obsXG_eq {n : Nat} {cks : List (List Ck)} {fn : List DefD} {ex : List ExD} {g : Addr → Option Obj} {s : Shared} (h : ∀ a, g a = s.heap.get? a) : obsXG n cks fn ex g = (hookX n cks fn ex).obs s := by
  have e : g = s.heap.get? := funext h
  rw [obsXG_fr, e] <;> rfl
end Hd

/-! DlH: the head's equation, put together from parts that are run one by one -/
namespace Hd
open PySem PySem.Spec PyProof.Rows He PySem.W HandSHeadRun
theorem map2 {α β γ : Type} {X : Option α} {f : α → β} {g : α → γ} {b : β} {c : γ} (h1 : X.map f = some b) (h2 : X.map g = some c) : X.map (fun x => (f x, g x)) = some (b, c) := by
  cases X with
  | none => cases h1
  | some x =>
    cases h1
    cases h2
    rfl
def RunA (r : OpenRow) (M : Nat) (w : World) : Prop := (wholeF (fun p => stepQ (denQ tabQ) p w) fenceQ M r.prog).map (fun x => looksF r.prog x.1.heap x.2.abs) = some true
def RunB (r : OpenRow) (q : Program) (M : Nat) (loose : List PySem.Str) (w : World) : Prop := (wholeF (fun p => stepQ (denQ tabQ) p w) fenceQ M r.prog).map (fun x => seenQ q loose (importedModules r.prog.main.body) (fun s => xlAt q [] s && recOk r.toRowW.records s) x.2.abs) = some (openGood q loose)
def RunC {α : Type} (r : OpenRow) (M : Nat) (ob : SharedT → α) (v : α) (w : World) : Prop := (wholeF (fun p => stepQ (denQ tabQ) p w) fenceQ M r.prog).map (fun x => ob x.2) = some v
def RunA1 (r : OpenRow) (M : Nat) (w : World) : Prop := (wholeF (fun p => stepQ (denQ tabQ) p w) fenceQ M r.prog).map (fun x => staticsOk (importedModules r.prog.main.body) x.1.heap x.2.abs.heap && namesBound r.prog x.2.abs.heap) = some true
def RunA2 (r : OpenRow) (M : Nat) (w : World) : Prop := (wholeF (fun p => stepQ (denQ tabQ) p w) fenceQ M r.prog).map (fun x => gensDone x.2.abs && laidKept x.1.heap x.2.abs.heap) = some true
theorem runA_of {r : OpenRow} {M : Nat} {w : World} (h1 : RunA1 r M w) (h2 : RunA2 r M w) : RunA r M w := by
  unfold RunA RunA1 RunA2 at *
  generalize wholeF (fun p => stepQ (denQ tabQ) p w) fenceQ M r.prog = X at *
  cases X with
  | none => cases h1
  | some x =>
    have h1 : (staticsOk (importedModules r.prog.main.body) x.1.heap x.2.abs.heap && namesBound r.prog x.2.abs.heap) = true := Option.some.inj h1
    have h2 : (gensDone x.2.abs && laidKept x.1.heap x.2.abs.heap) = true := Option.some.inj h2
    refine congrArg some ?_
    unfold looksF
    rw [Bool.and_eq_true] at h2
    show ((staticsOk (importedModules r.prog.main.body) x.1.heap x.2.abs.heap && namesBound r.prog x.2.abs.heap && gensDone x.2.abs) && laidKept x.1.heap x.2.abs.heap) = true
    rw [h1, h2.1, h2.2]
    rfl
theorem run_of {r : OpenRow} {q : Program} {H : Hook} {ob : SharedT → H.α} {M : Nat} {loose : List PySem.Str} {w : World} (h1 : RunA r M w) (h2 : RunB r q M loose w) (h3 : RunC r M ob (H.val w) w) : RunEqI r q H ob M loose w := map2 h1 (map2 h2 h3)
theorem obs_join {n : Nat} {c1 c2 : List (List Ck)} {f1 f2 : List DefD} {e1 e2 : List ExD} {g : Addr → Option Obj} (h1 : obsXG n c1 f1 e1 g = valX f1 e1) (h2 : obsXG n c2 f2 e2 g = valX f2 e2) : obsXG n (c1 ++ c2) (f1 ++ f2) (e1 ++ e2) g = valX (f1 ++ f2) (e1 ++ e2) := by
  rw [obsXG_fr] at h1 h2 ⊢
  unfold obsX valX at *
  have a1 := congrArg (fun z => z.1) h1
  have b1 := congrArg (fun z => z.2.1) h1
  have c1 := congrArg (fun z => z.2.2) h1
  have a2 := congrArg (fun z => z.1) h2
  have b2 := congrArg (fun z => z.2.1) h2
  have c2 := congrArg (fun z => z.2.2) h2
  simp only [Bool.and_eq_true] at a1 a2
  simp only at b1 b2 c1 c2
  rw [List.all_append, List.all_append, List.map_append, List.map_append, List.map_append, List.map_append, b1, b2, c1, c2, a1.1, a1.2, a2.1, a2.2]
  rfl
theorem runC_join {r : OpenRow} {M n : Nat} {c1 c2 : List (List Ck)} {f1 f2 : List DefD} {e1 e2 : List ExD} {w : World} (h1 : RunC r M (fun s => obsXG n c1 f1 e1 (getT s)) (valX f1 e1) w) (h2 : RunC r M (fun s => obsXG n c2 f2 e2 (getT s)) (valX f2 e2) w) :
    RunC r M (fun s => obsXG n (c1 ++ c2) (f1 ++ f2) (e1 ++ e2) (getT s)) (valX (f1 ++ f2) (e1 ++ e2)) w := by
  unfold RunC at *
  generalize wholeF (fun p => stepQ (denQ tabQ) p w) fenceQ M r.prog = X at *
  cases X with
  | none => cases h1
  | some x =>
    have h1 : obsXG n c1 f1 e1 (getT x.2) = valX f1 e1 := Option.some.inj h1
    have h2 : obsXG n c2 f2 e2 (getT x.2) = valX f2 e2 := Option.some.inj h2
    exact congrArg some (obs_join h1 h2)
end Hd

namespace G
open PySem PySem.Spec L2 PyProof.Rows
def topH (i : Nat) : Stmt := PySem.Challenge.pw_armwarrant_k59_names_and_landings_in_flo.main.body.getD i (.Pass ⟨0, 0, 0, 0⟩)
def ck0 : List Hd.Ck := [fun K => He.Fa.ok K (.glo "_law_number"),
  fun K => He.Fa.ok K (.glo "_law_digits"),
  fun K => He.Fa.ok K (.glo "_law_digit"),
  fun K => He.Fa.ok K (.glo "_law_step"),
  fun K => He.Fa.ok K (.glo "landing"),
  fun K => He.Fa.ok K (.glo "_law_is_integer"),
  fun K => He.Fa.ok K (.glo "_law_landing"),
  fun K => He.Fa.ok K (.glo "names_in"),
  fun K => He.Fa.ok K (.glo "points_of"),
  fun K => He.Fa.ok K (.glo "_law_each"),
  fun K => He.Fa.ok K (.glo "signals_of"),
  fun K => He.Fa.ok K (.glo "parts_of"),
  fun K => He.Fa.ok K (.glo "law"),
  fun K => He.Fa.ok K (.free "bool"),
  fun K => He.Fa.ok K (.free "int"),
  fun K => He.Fa.ok K (.free "isinstance"),
  fun K => He.Fa.ok K (.free "len"),
  fun K => He.Fa.ok K (.free "range"),
  fun K => He.Fa.ok K (.free "repr")]
def cks : List (List Hd.Ck) := [ck0]
def df0 : He.DefD := ⟨("_law_number", none), "_law_number", "_law_number", defArgs (topH 7), defBody (topH 7), defScope (topH 7), [], []⟩
def df1 : He.DefD := ⟨("_law_digits", none), "_law_digits", "_law_digits", defArgs (topH 8), defBody (topH 8), defScope (topH 8), [], []⟩
def df2 : He.DefD := ⟨("_law_digit", none), "_law_digit", "_law_digit", defArgs (topH 9), defBody (topH 9), defScope (topH 9), [], []⟩
def df3 : He.DefD := ⟨("_law_step", none), "_law_step", "_law_step", defArgs (topH 11), defBody (topH 11), defScope (topH 11), [], []⟩
def df4 : He.DefD := ⟨("landing", none), "landing", "landing", defArgs (topH 1), defBody (topH 1), defScope (topH 1), [], []⟩
def df5 : He.DefD := ⟨("_law_is_integer", none), "_law_is_integer", "_law_is_integer", defArgs (topH 10), defBody (topH 10), defScope (topH 10), [], []⟩
def df6 : He.DefD := ⟨("_law_landing", none), "_law_landing", "_law_landing", defArgs (topH 12), defBody (topH 12), defScope (topH 12), [], []⟩
def df7 : He.DefD := ⟨("names_in", none), "names_in", "names_in", defArgs (topH 2), defBody (topH 2), defScope (topH 2), [], []⟩
def df8 : He.DefD := ⟨("points_of", none), "points_of", "points_of", defArgs (topH 3), defBody (topH 3), defScope (topH 3), [], []⟩
def df9 : He.DefD := ⟨("_law_each", none), "_law_each", "_law_each", defArgs (topH 13), defBody (topH 13), defScope (topH 13), [], []⟩
def df10 : He.DefD := ⟨("signals_of", none), "signals_of", "signals_of", defArgs (topH 4), defBody (topH 4), defScope (topH 4), [], []⟩
def df11 : He.DefD := ⟨("parts_of", none), "parts_of", "parts_of", defArgs (topH 5), defBody (topH 5), defScope (topH 5), [], []⟩
def df12 : He.DefD := ⟨("law", none), "law", "law", defArgs (topH 14), defBody (topH 14), defScope (topH 14), [], []⟩
def dfl0 : List He.DefD := [df0, df1, df2, df3, df4, df5, df6, df7, df8, df9, df10, df11, df12]
def dfs : List He.DefD := dfl0
def exs : List Hd.ExD := []
abbrev RR : PySem.W.OpenRow := PySem.W.OpenLaw.row PySem.Challenge.rw_armwarrant_k59_names_and_landings_in_flo
abbrev qv : Program := PySem.W.view RR.prog [14]
def nms0 : List PySem.Str := [("__name__" : PySem.Str), ("landing" : PySem.Str), ("names_in" : PySem.Str), ("points_of" : PySem.Str), ("signals_of" : PySem.Str), ("parts_of" : PySem.Str), ("_law_number" : PySem.Str), ("_law_digits" : PySem.Str), ("_law_digit" : PySem.Str), ("_law_is_integer" : PySem.Str), ("_law_step" : PySem.Str), ("_law_landing" : PySem.Str), ("_law_each" : PySem.Str)]
def nms : List PySem.Str := nms0
abbrev hk : PySem.W.Hook := Hd.hookX 5 cks dfs exs
def ob (s : PySem.W.SharedT) : Hd.AlX := Hd.obsXG 5 cks dfs exs (HandSHeadRun.getT s)
theorem ob_eq (s : PySem.W.SharedT) : ob s = hk.obs s.abs := Hd.obsXG_eq (HandSHeadRun.getT_eq s)
set_option maxHeartbeats 0 in
theorem hrun (w : World) : HandSHeadRun.RunEq RR qv hk ob 40000 nms w := by
  intro os
  show _ = _
  kernel_rfl
end G

/-! DlN: dicts whose keys are tuples of tuples -/
namespace L2
open PySem PySem.Spec PyProof.Rows
mutual
/-- the value is the key -/
inductive NK (K : PySem.W.Frag) (H : Hp) : NestedKey → V → Prop
  | non : NK K H .none .non
  | bl (b : Bool) : NK K H (.num (if b = true then 1 else 0)) (.bl b)
  | int (i : Int) : NK K H (.num i) (.int i)
  | str (x : Str) : NK K H (.text x) (.str x)
  | tup {a : Addr} {vs : List V} {ks : List NestedKey} : SqT K H a vs → NKs K H ks vs → NK K H (.tup ks) (.ref a)
inductive NKs (K : PySem.W.Frag) (H : Hp) : List NestedKey → List V → Prop
  | nil : NKs K H [] []
  | cons {k : NestedKey} {v : V} {ks : List NestedKey} {vs : List V} : NK K H k v → NKs K H ks vs → NKs K H (k :: ks) (v :: vs)
end
section
variable {X : Cx} {pins : List (Addr × Obj)} {σ : L2.St} {H : Hp} {s : Shared}
mutual
theorem nk_is (I : Inv X pins σ H s) : ∀ {k : NestedKey} {v : V} {u : Value}, NK X.K H k v → RelV v u → NestedIs s.heap k u
  | _, _, u, .non, r => by
    cases (show u = Value.none from r)
    exact NestedIs.none
  | _, _, u, .bl b, r => by
    cases (show u = Value.bool b from r)
    exact NestedIs.bool rfl
  | _, _, u, .int i, r => by
    obtain ⟨t, rfl⟩ := (show ∃ t, u = Value.int i t from r)
    exact NestedIs.int i t
  | _, _, u, .str x, r => by
    obtain ⟨t, rfl⟩ := (show ∃ t, u = Value.str x t from r)
    exact NestedIs.text x t
  | _, _, u, .tup (a := a) h q, r => by
    cases (show u = Value.ref a from r)
    obtain ⟨its, rv, ⟨o, e, c, n, d⟩, _⟩ := I.tuple h
    exact NestedIs.tup e c d (by simpa using nks_are I q rv)
theorem nks_are (I : Inv X pins σ H s) : ∀ {ks : List NestedKey} {vs : List V} {us : List Value}, NKs X.K H ks vs → Vals vs us → NestedAll s.heap ks us
  | _, _, _, .nil, .nil => .nil
  | _, _, _, .cons h q, .cons r rs => .cons (nk_is I h r) (nks_are I q rs)
end
end
abbrev NX := List (NestedKey × Addr × V)
def nEnt (w : World) (y : NestedKey × Addr × Value) : DictEntry := ⟨y.1.hash w, .ref y.2.1, y.2.2⟩
abbrev NXV : NX → List (NestedKey × Addr × Value) → Prop := Paired fun p q => p.1 = q.1 ∧ p.2.1 = q.2.1 ∧ RelV p.2.2 q.2.2
/-- the dict at a: its keys, where they stand, their values -/
def NDφ (w : World) (a : Addr) (xs : NX) (h : Heap) : Prop := xs.length ≤ sizeLine ∧ (a == sysModules) = false ∧ ∃ ys, NXV xs ys ∧ ∃ o es ep, h.get? a = some o ∧ o.ExactDict ∧ o.data = .dict es ep ∧ es.toList = ys.map (nEnt w) ∧ (ys.map (·.1)).Nodup
def NDO (w : World) (a : Addr) (xs : NX) : HO := .ext (NDφ w a xs)
theorem ndφ_stay {w : World} {a : Addr} {xs : NX} {h h' : Heap} (R : NDφ w a xs h) (k : ∀ o, h.get? a = some o → h'.get? a = some o) : NDφ w a xs h' := by
  obtain ⟨z, hd, ys, r, o, es, ep, e, q⟩ := R
  exact ⟨z, hd, ys, r, o, es, ep, k o e, q⟩
theorem ndo_new {P : Program} {w : World} {H : Hp} {h : Heap} {a : Addr} {xs : NX} (R : NDφ w a xs h) : ObjOk P w H h a (NDO w a xs) := by
  have ⟨_, _, _, _, o, _, _, e, _⟩ := R
  exact ⟨R, ⟨o, e⟩, fun h1 h2 p k => ndφ_stay p k⟩
/-- its keys are known -/
def AllK (K : PySem.W.Frag) (H : Hp) (xs : NX) : Prop := ∀ x ∈ xs, NK K H x.1 (.ref x.2.1) ∧ x.1.depth ≤ 8
def hasN (xs : NX) (k : NestedKey) : Bool := xs.any fun x => decide (x.1 = k)
def putN (xs : NX) (k : NestedKey) (b : Addr) (v : V) : NX := if hasN xs k = true then xs.map fun x => if x.1 = k then (x.1, x.2.1, v) else x else xs ++ [(k, b, v)]
theorem nxv_any {k : NestedKey} : ∀ {xs : NX} {ys : List (NestedKey × Addr × Value)}, NXV xs ys → hasN xs k = (atKey ys k).isSome
  | _, _, .nil => rfl
  | x :: xs, y :: ys, .cons h r => by
    have ih := nxv_any (k := k) r
    unfold hasN at ih ⊢
    unfold atKey at ih ⊢
    rw [List.any_cons, List.find?_cons, ih, h.1]
    cases decide (y.1 = k) <;> rfl
theorem nxv_map {k : NestedKey} {v : V} {u : Value} (rv : RelV v u) : ∀ {xs : NX} {ys : List (NestedKey × Addr × Value)}, NXV xs ys → NXV (xs.map fun x => if x.1 = k then (x.1, x.2.1, v) else x) (ys.map (putAt k u))
  | _, _, .nil => .nil
  | _, _, .cons h r => by
    refine .cons ?_ (nxv_map rv r)
    unfold putAt
    obtain ⟨h1, h2, h3⟩ := h
    dsimp only
    rw [h1]
    split
    · exact ⟨rfl, h2, rv⟩
    · exact ⟨h1, h2, h3⟩
theorem nxv_snoc {k : NestedKey} {b : Addr} {v : V} {u : Value} (rv : RelV v u) : ∀ {xs : NX} {ys : List (NestedKey × Addr × Value)}, NXV xs ys → NXV (xs ++ [(k, b, v)]) (ys ++ [(k, b, u)])
  | _, _, .nil => .cons ⟨rfl, rfl, rv⟩ .nil
  | _, _, .cons h r => .cons h (nxv_snoc rv r)
theorem nxv_put {k : NestedKey} {b : Addr} {v : V} {u : Value} {xs : NX} {ys : List (NestedKey × Addr × Value)} (r : NXV xs ys) (rv : RelV v u) : NXV (putN xs k b v) (storedH ys k b u) := by
  unfold putN storedH
  rw [nxv_any (k := k) r]
  split
  · exact nxv_map rv r
  · exact nxv_snoc rv r
theorem putN_len {xs : NX} {k : NestedKey} {b : Addr} {v : V} : (putN xs k b v).length ≤ xs.length + 1 := by
  unfold putN
  split
  · rw [List.length_map]; omega
  · rw [List.length_append, List.length_singleton]; omega
section
variable {X : Cx} {pins : List (Addr × Obj)} {σ : L2.St} {H : Hp} {s : Shared} {a : Addr} {xs : NX}
theorem nd_at (I : Inv X pins σ H s) (e : H a = some (NDO X.w a xs)) (hk : AllK X.K H xs) : xs.length ≤ sizeLine ∧ (a == sysModules) = false ∧ ∃ ys, NXV xs ys ∧ s.heap.DictOfH (nestedKind X.prog X.w) a ys := by
  obtain ⟨z, hd, ys, r, o, es, ep, h1, h2, h3, h4, h5⟩ := (I.hok a _ e).1
  refine ⟨z, hd, ys, r, o, es, ep, h1, h2, h3, h4, ?_, h5⟩
  have all : ∀ {xs : NX} {ys : List (NestedKey × Addr × Value)}, NXV xs ys → AllK X.K H xs → ∀ y ∈ ys, (nestedKind X.prog X.w).is s.heap y.1 y.2.1 := by
    intro xs ys r
    induction r with
    | nil => intro _ y hy; cases hy
    | @cons p q ps qs hq t ih =>
      intro hk y hy
      rcases List.mem_cons.mp hy with e | hy
      · subst e
        obtain ⟨k1, k2⟩ := hk _ List.mem_cons_self
        rw [hq.1, hq.2.1] at k1
        rw [hq.1] at k2
        exact ⟨nk_is I k1 rfl, k2⟩
      · exact ih (fun x hx => hk x (List.mem_cons_of_mem _ hx)) y hy
  exact all r hk
/-- k in d, k not in d -/
def rNin (K : PySem.W.Frag) (w : World) (neg : Bool) : V → V → Hp → VK → Prop := fun x y H Q => ∃ (k : NestedKey) (b a : Addr) (xs : NX), x = .ref b ∧ NK K H k (.ref b) ∧ k.depth ≤ 8 ∧ y = .ref a ∧ H a = some (NDO w a xs) ∧ AllK K H xs ∧ Q (.bl (if neg then !hasN xs k else hasN xs k)) H
theorem nroom {k : Nat} (hr : Room k X.A) : (nestedKind X.prog X.w).room X.A.in1 := by
  have := hr.units
  show X.A.units + 1 + 8 < cLine
  omega
theorem or_nin {j : Nat} (hr : Room j X.A) : OpR X (compareOp .In) (rNin X.K X.w false) := by
  intro pins s σ H x y v u Q I rx ry h
  obtain ⟨k, b, a, xs, rfl, hk, kd, rfl, ha, hx, q⟩ := h
  cases (show v = Value.ref b from rx)
  cases (show u = Value.ref a from ry)
  obtain ⟨z, hd, ys, r, dd⟩ := nd_at I ha hx
  refine wpAny_in_heap (nroom hr) ⟨nk_is I hk rfl, kd⟩ hd dd ?_
  rw [← nxv_any r]
  exact ⟨.bl (hasN xs k), H, I.tok _, rfl, q⟩
theorem or_nnin {j : Nat} (hr : Room j X.A) : OpR X (compareOp .NotIn) (rNin X.K X.w true) := by
  intro pins s σ H x y v u Q I rx ry h
  obtain ⟨k, b, a, xs, rfl, hk, kd, rfl, ha, hx, q⟩ := h
  cases (show v = Value.ref b from rx)
  cases (show u = Value.ref a from ry)
  obtain ⟨z, hd, ys, r, dd⟩ := nd_at I ha hx
  refine notIn_keyed (knd := nestedKind X.prog X.w) (kvs := pairsH ys) (nroom hr) ⟨nk_is I hk rfl, kd⟩ hd ⟨ys, dd, rfl⟩ ?_
  rw [valueAt_pairsH, Option.isSome_map, ← nxv_any r]
  exact ⟨.bl (!hasN xs k), H, I.tok _, rfl, q⟩
/-- d[k] = v -/
def rSetN (K : PySem.W.Frag) (w : World) : TSet := fun o i v H Q => ∃ (a : Addr) (xs : NX) (k : NestedKey) (b : Addr), o = .ref a ∧ H a = some (NDO w a xs) ∧ AllK K H xs ∧ i = .ref b ∧ NK K H k (.ref b) ∧ k.depth ≤ 8 ∧ xs.length < sizeLine ∧ Q (upd H a (NDO w a (putN xs k b v)))
theorem set_nd {j : Nat} (hr : Room j X.A) : PSet X (rSetN X.K X.w) := by
  intro pins s σ H o i v ov iv u Q I ro ri rv h
  obtain ⟨a, xs, k, b, rfl, ha, hx, rfl, hk, kd, hl, q⟩ := h
  cases (show ov = Value.ref a from ro)
  cases (show iv = Value.ref b from ri)
  obtain ⟨z, hd, ys, r, dd⟩ := nd_at I ha hx
  have hz : ys.length ≤ sizeLine := by rw [← Paired.length r]; exact z
  refine wpAny_setItem_heap (hsz := hz) (nroom hr) ⟨nk_is I hk rfl, kd⟩ dd fun h' dd' hs => ?_
  obtain ⟨ob, es, ep, e1, e2, e3, e4, _, e5⟩ := dd'
  have l := putN_len (xs := xs) (k := k) (b := b) (v := v)
  exact ⟨_, d_write I (by rw [ha]; exact True.intro) hs ⟨ob, e1⟩ (ndo_new ⟨by omega, hd, _, nxv_put r rv, ob, es, ep, e1, e2, e3, e4, e5⟩), q⟩
/-- {} -/
def tDNewN (w : World) : TE := fun _ H Q => ∀ p, H p = none → Q (.ref p) (upd H p (NDO w p []))
theorem pe_dnewN {pos : Pos} : PE X (.Dict [] [] pos) (tDNewN X.w) := ⟨fun pins s σ H Q I h =>
  wpAny_Dict_empty ⟨.ref s.heap.objs.size, _, I.laid (a := s.heap.objs.size) (o := NDO X.w s.heap.objs.size []) (t' := s.toks) (fun _ _ q => Heap.get?_push_of_some _ q) (Nat.le_refl _)
    (ndo_new ⟨Nat.zero_le _, beq_eq_false_iff_ne.mpr (Ne.symm (Nat.ne_of_lt I.big)), [], .nil, _, #[], 0, Heap.get?_push_size _ rfl, ⟨rfl, rfl, rfl⟩, rfl, rfl, List.nodup_nil⟩), rfl, h _ (I.hok.fresh (Nat.le_refl _))⟩⟩
end
end L2

/-! Dl: what a def does, told over data (Dt) and slots (Sl); heaps are dealt with once, here. -/
namespace DL
open PySem L2

/-! ### data -/
inductive Dt where
  | non | bl (b : Bool) | int (i : Int) | str (s : Str)
  | ty (n : String)
  | tup (xs : List Dt) | lst (xs : List Dt) | obj (C : Addr) (fs : List (Str × Dt))
  | dic (w : World) (kvs : List (Dt × Dt))
mutual
/-- data as a key -/
def keyD : Dt → Option NestedKey
  | .non => some .none
  | .bl b => some (.num (if b = true then 1 else 0))
  | .int i => some (.num i)
  | .str s => some (.text s)
  | .tup xs => (keyDs xs).map .tup
  | _ => none
def keyDs : List Dt → Option (List NestedKey)
  | [] => some []
  | d :: ds => (keyD d).bind fun k => (keyDs ds).map fun ks => k :: ks
end

mutual
inductive Rep (K : PySem.W.Frag) (H : Hp) : V → Dt → Prop
  | non : Rep K H .non .non
  | bl (b : Bool) : Rep K H (.bl b) (.bl b)
  | int (i : Int) : Rep K H (.int i) (.int i)
  | str (s : Str) : Rep K H (.str s) (.str s)
  | ty (n : String) : Rep K H (.ty n) (.ty n)
  | tup {a : Addr} {xs : List V} {ds : List Dt} : SqT K H a xs → Reps K H xs ds → Rep K H (.ref a) (.tup ds)
  | lst {a : Addr} {xs : List V} {ds : List Dt} : SqL K H a xs → Reps K H xs ds → Rep K H (.ref a) (.lst ds)
  | obj {a C dx : Addr} {fs : List (Str × V)} {gs : List (Str × Dt)} : H a = some (.ins C dx fs) → RepF K H fs gs → Rep K H (.ref a) (.obj C gs)
  | dic {a : Addr} {w : World} {xs : NX} {kvs : List (Dt × Dt)} : H a = some (NDO w a xs) → RepK K H xs kvs → Rep K H (.ref a) (.dic w kvs)
inductive Reps (K : PySem.W.Frag) (H : Hp) : List V → List Dt → Prop
  | nil : Reps K H [] []
  | cons {v : V} {d : Dt} {vs : List V} {ds : List Dt} : Rep K H v d → Reps K H vs ds → Reps K H (v :: vs) (d :: ds)
inductive RepF (K : PySem.W.Frag) (H : Hp) : List (Str × V) → List (Str × Dt) → Prop
  | nil : RepF K H [] []
  | cons {f : Str} {v : V} {d : Dt} {vs : List (Str × V)} {ds : List (Str × Dt)} : Rep K H v d → RepF K H vs ds → RepF K H ((f, v) :: vs) ((f, d) :: ds)
inductive RepK (K : PySem.W.Frag) (H : Hp) : NX → List (Dt × Dt) → Prop
  | nil : RepK K H [] []
  | cons {k : NestedKey} {b : Addr} {v : V} {kd d : Dt} {xs : NX} {kvs : List (Dt × Dt)} : keyD kd = some k → k.depth ≤ 8 → Rep K H (.ref b) kd → Rep K H v d → RepK K H xs kvs → RepK K H ((k, b, v) :: xs) ((kd, d) :: kvs)
end

theorem sqT_mono {K : PySem.W.Frag} {H H' : Hp} {a : Addr} {xs : List V} (e : Same H H') (h : SqT K H a xs) : SqT K H' a xs := by
  rcases h with (h | ⟨o, h⟩) | h
  · exact .inl (.inl (e _ _ h))
  · exact .inl (.inr ⟨o, e _ _ h⟩)
  · exact .inr h

mutual
theorem Rep.mono {K : PySem.W.Frag} {H H' : Hp} (e : Same H H') : ∀ {v : V} {d : Dt}, Rep K H v d → Rep K H' v d
  | _, _, .non => .non
  | _, _, .bl b => .bl b
  | _, _, .int i => .int i
  | _, _, .str s => .str s
  | _, _, .ty n => .ty n
  | _, _, .tup h r => .tup (sqT_mono e h) (Reps.mono e r)
  | _, _, .lst h r => .lst (e.seq h) (Reps.mono e r)
  | _, _, .obj h r => .obj (e _ _ h) (RepF.mono e r)
  | _, _, .dic h r => .dic (e _ _ h) (RepK.mono e r)
theorem Reps.mono {K : PySem.W.Frag} {H H' : Hp} (e : Same H H') : ∀ {vs : List V} {ds : List Dt}, Reps K H vs ds → Reps K H' vs ds
  | _, _, .nil => .nil
  | _, _, .cons h r => .cons (Rep.mono e h) (Reps.mono e r)
theorem RepF.mono {K : PySem.W.Frag} {H H' : Hp} (e : Same H H') : ∀ {vs : List (Str × V)} {ds : List (Str × Dt)}, RepF K H vs ds → RepF K H' vs ds
  | _, _, .nil => .nil
  | _, _, .cons h r => .cons (Rep.mono e h) (RepF.mono e r)
theorem RepK.mono {K : PySem.W.Frag} {H H' : Hp} (e : Same H H') : ∀ {xs : NX} {kvs : List (Dt × Dt)}, RepK K H xs kvs → RepK K H' xs kvs
  | _, _, .nil => .nil
  | _, _, .cons a b c d r => .cons a b (Rep.mono e c) (Rep.mono e d) (RepK.mono e r)
end
theorem Reps.length {K : PySem.W.Frag} {H : Hp} : ∀ {vs : List V} {ds : List Dt}, Reps K H vs ds → vs.length = ds.length
  | _, _, .nil => rfl
  | _, _, .cons _ r => congrArg (· + 1) r.length
theorem Reps.get {K : PySem.W.Frag} {H : Hp} : ∀ {vs : List V} {ds : List Dt} {i : Nat} {d : Dt}, Reps K H vs ds → ds[i]? = some d → ∃ v, vs[i]? = some v ∧ Rep K H v d
  | _, _, _, _, .nil, e => by simp at e
  | _, _, 0, _, .cons h r, e => by simp at e; subst e; exact ⟨_, rfl, h⟩
  | _, _, i + 1, _, .cons h r, e => by
    obtain ⟨v, h1, h2⟩ := Reps.get (i := i) r (by simpa using e)
    exact ⟨v, by simpa using h1, h2⟩
theorem Reps.get' {K : PySem.W.Frag} {H : Hp} : ∀ {vs : List V} {ds : List Dt} {i : Nat} {v : V}, Reps K H vs ds → vs[i]? = some v → ∃ d, ds[i]? = some d ∧ Rep K H v d
  | _, _, _, _, .nil, e => by simp at e
  | _, _, 0, _, .cons h r, e => by simp at e; subst e; exact ⟨_, rfl, h⟩
  | _, _, i + 1, _, .cons h r, e => by
    obtain ⟨v, h1, h2⟩ := Reps.get' (i := i) r (by simpa using e)
    exact ⟨v, by simpa using h1, h2⟩
theorem Reps.append {K : PySem.W.Frag} {H : Hp} : ∀ {vs ws : List V} {ds es : List Dt}, Reps K H vs ds → Reps K H ws es → Reps K H (vs ++ ws) (ds ++ es)
  | _, _, _, _, .nil, s => s
  | _, _, _, _, .cons h r, s => .cons h (Reps.append r s)
theorem Reps.set {K : PySem.W.Frag} {H : Hp} {v : V} {d : Dt} (hv : Rep K H v d) : ∀ {vs : List V} {ds : List Dt} (i : Nat), Reps K H vs ds → Reps K H (vs.set i v) (ds.set i d)
  | _, _, _, .nil => .nil
  | _, _, 0, .cons _ r => .cons hv r
  | _, _, i + 1, .cons h r => .cons h (Reps.set hv i r)
theorem Reps.take {K : PySem.W.Frag} {H : Hp} : ∀ {vs : List V} {ds : List Dt} (n : Nat), Reps K H vs ds → Reps K H (vs.take n) (ds.take n)
  | _, _, 0, _ => .nil
  | _, _, _ + 1, .nil => .nil
  | _, _, n + 1, .cons h r => .cons h (Reps.take n r)
theorem Reps.drop {K : PySem.W.Frag} {H : Hp} : ∀ {vs : List V} {ds : List Dt} (n : Nat), Reps K H vs ds → Reps K H (vs.drop n) (ds.drop n)
  | _, _, 0, r => r
  | _, _, _ + 1, .nil => .nil
  | _, _, n + 1, .cons h r => Reps.drop n r
theorem RepF.lookup {K : PySem.W.Frag} {H : Hp} {f : Str} {d : Dt} : ∀ {vs : List (Str × V)} {ds : List (Str × Dt)}, RepF K H vs ds → ds.lookup f = some d → ∃ v, vs.lookup f = some v ∧ Rep K H v d
  | _, _, .nil, e => by cases e
  | _, _, .cons (f := g) h r, e => by
    rw [List.lookup_cons] at e ⊢
    cases q : f == g with
    | true => rw [q] at e; cases e; exact ⟨_, rfl, h⟩
    | false => rw [q] at e; exact RepF.lookup r e
theorem RepF.lookup_none {K : PySem.W.Frag} {H : Hp} {f : Str} : ∀ {vs : List (Str × V)} {ds : List (Str × Dt)}, RepF K H vs ds → ds.lookup f = none → vs.lookup f = none
  | _, _, .nil, e => rfl
  | _, _, .cons (f := g) h r, e => by
    rw [List.lookup_cons] at e ⊢
    cases q : f == g with
    | true => rw [q] at e; cases e
    | false => rw [q] at e; exact RepF.lookup_none r e
def putD (f : Str) (d : Dt) : List (Str × Dt) → List (Str × Dt)
  | [] => [(f, d)]
  | (g, e) :: r => if g = f then (g, d) :: r else (g, e) :: putD f d r
end DL

namespace DL
open PySem L2

/-! ### slots and states -/
/-- a field of an object of one's own: data, or a list or a dict that is written to through the object alone -/
inductive PF where
  | dat (d : Dt)
  | lst (q : Addr) (ds : List Dt)
  | dic (q : Addr) (w : World) (kvs : List (Dt × Dt))
/-- what is one's own, by its address -/
inductive PX where
  | dct (q : Addr) (w : World) (kvs : List (Dt × Dt))
  | obj (p C : Addr) (fs : List (Str × PF))
inductive Sl where
  | un
  | d (x : Dt)
  | own (p : Option Addr) (xs : List Dt)
  | obo (p : Option Addr) (C : Addr) (fs : List (Str × Dt))
  | prv (x : PX)

def Sl.isOwn : Sl → Bool
  | .own _ _ => true
  | .obo _ _ _ => true
  | .prv _ => true
  | _ => false
def PF.adr : PF → List Addr
  | .dat _ => []
  | .lst q _ => [q]
  | .dic q _ _ => [q]
def PX.adr : PX → List Addr
  | .dct q _ _ => [q]
  | .obj p _ fs => p :: fs.flatMap fun f => f.2.adr
/-- the addresses that are a slot's own -/
def Sl.has (o : Option V) (a : Addr) : Sl → Prop
  | .own _ _ => o = some (.ref a)
  | .obo _ _ _ => o = some (.ref a)
  | .prv x => a ∈ x.adr
  | _ => False
def PFOk (K : PySem.W.Frag) (F G H : Hp) (v : V) : PF → Prop
  | .dat d => Rep K G v d
  | .lst q ds => v = .ref q ∧ G q = none ∧ F q = none ∧ ∃ vs, H q = some (.lst vs) ∧ Reps K G vs ds
  | .dic q w kvs => v = .ref q ∧ G q = none ∧ F q = none ∧ ∃ xs, H q = some (NDO w q xs) ∧ RepK K G xs kvs
def PFsOk (K : PySem.W.Frag) (F G H : Hp) : List (Str × V) → List (Str × PF) → Prop
  | [], [] => True
  | (a, v) :: vs, (b, x) :: fs => a = b ∧ PFOk K F G H v x ∧ PFsOk K F G H vs fs
  | _, _ => False
def PXOk (K : PySem.W.Frag) (F G H : Hp) (o : Option V) (x : PX) : Prop := x.adr.Nodup ∧ match x with
  | .dct q w kvs => ∃ v, o = some v ∧ PFOk K F G H v (.dic q w kvs)
  | .obj p C fs => o = some (.ref p) ∧ G p = none ∧ F p = none ∧ ∃ dx vs, H p = some (.ins C dx vs) ∧ PFsOk K F G H vs fs

def SlOk (K : PySem.W.Frag) (F G H : Hp) (o : Option V) : Sl → Prop
  | .un => True
  | .d x => ∃ v, o = some v ∧ Rep K G v x
  | .own a xs => ∃ p vs, o = some (.ref p) ∧ G p = none ∧ F p = none ∧ H p = some (.lst vs) ∧ Reps K G vs xs ∧ ∀ q, a = some q → q = p
  | .obo a C fs => ∃ p dx vs, o = some (.ref p) ∧ G p = none ∧ F p = none ∧ H p = some (.ins C dx vs) ∧ RepF K G vs fs ∧ ∀ q, a = some q → q = p
  | .prv x => PXOk K F G H o x
/-- no address is two slots' own -/
def Spr (σ : L2.St) (es : List Sl) : Prop := ∀ (i j : Nat) (s t : Sl) (x y : Option V) (a : Addr), i ≠ j → es[i]? = some s → es[j]? = some t → σ[i]? = some x → σ[j]? = some y → s.has x a → t.has y a → False

/-- F: what is another's, G: what is known and stands, H: the heap -/
structure Stt (K : PySem.W.Frag) (F G H : Hp) (σ : L2.St) (es : List Sl) : Prop where
  f : Same F H
  g : Same G H
  dj : ∀ a o, F a = some o → G a = none
  len : σ.length = es.length
  sl : ∀ (i : Nat) (s : Sl), es[i]? = some s → ∃ o, σ[i]? = some o ∧ SlOk K F G H o s
  sp : Spr σ es
section
variable {K : PySem.W.Frag} {F G H F' G' H' : Hp} {σ σ' : L2.St} {es es' : List Sl}
theorem PFOk.tr {v : V} {x : PF} (h : PFOk K F G H v x) (eg : Same G G') (k : ∀ a ∈ x.adr, G a = none → F a = none → G' a = none ∧ F' a = none ∧ ∀ u, H a = some u → H' a = some u) : PFOk K F' G' H' v x := by
  cases x with
  | dat d => exact Rep.mono eg h
  | lst q ds =>
    obtain ⟨e, g, f, vs, hp, r⟩ := h
    obtain ⟨g', f', u⟩ := k q (List.mem_singleton.mpr rfl) g f
    exact ⟨e, g', f', vs, u _ hp, r.mono eg⟩
  | dic q w kvs =>
    obtain ⟨e, g, f, xs, hp, r⟩ := h
    obtain ⟨g', f', u⟩ := k q (List.mem_singleton.mpr rfl) g f
    exact ⟨e, g', f', xs, u _ hp, r.mono eg⟩
theorem PFsOk.tr : ∀ {vs : List (Str × V)} {fs : List (Str × PF)}, PFsOk K F G H vs fs → Same G G' → (∀ a ∈ fs.flatMap (fun f => f.2.adr), G a = none → F a = none → G' a = none ∧ F' a = none ∧ ∀ u, H a = some u → H' a = some u) → PFsOk K F' G' H' vs fs
  | [], [], _, _, _ => trivial
  | (a, v) :: vs, (b, x) :: fs, h, eg, k => ⟨h.1, h.2.1.tr eg fun a m => k a (by rw [List.flatMap_cons]; exact List.mem_append_left _ m), PFsOk.tr h.2.2 eg fun a m => k a (by rw [List.flatMap_cons]; exact List.mem_append_right _ m)⟩
  | [], _ :: _, h, _, _ => h.elim
  | _ :: _, [], h, _, _ => h.elim
theorem PXOk.tr {o : Option V} {x : PX} (h : PXOk K F G H o x) (eg : Same G G') (k : ∀ a ∈ x.adr, G a = none → F a = none → G' a = none ∧ F' a = none ∧ ∀ u, H a = some u → H' a = some u) : PXOk K F' G' H' o x := by
  refine ⟨h.1, ?_⟩
  obtain ⟨_, h⟩ := h
  cases x with
  | dct q w kvs =>
    obtain ⟨v, e, h⟩ := h
    exact ⟨v, e, PFOk.tr h eg k⟩
  | obj p C fs =>
    obtain ⟨e, g, f, dx, vs, hp, r⟩ := h
    obtain ⟨g', f', u⟩ := k p (List.mem_cons_self ..) g f
    exact ⟨e, g', f', dx, vs, u _ hp, r.tr eg fun a m => k a (List.mem_cons_of_mem _ m)⟩
theorem PFOk.at {v : V} {x : PF} (h : PFOk K F G H v x) {a : Addr} (m : a ∈ x.adr) : G a = none ∧ F a = none ∧ ∃ u, H a = some u := by
  cases x with
  | dat d => cases m
  | lst q ds =>
    obtain ⟨e, g, f, vs, hp, r⟩ := h
    rw [List.mem_singleton.mp m]
    exact ⟨g, f, _, hp⟩
  | dic q w kvs =>
    obtain ⟨e, g, f, xs, hp, r⟩ := h
    rw [List.mem_singleton.mp m]
    exact ⟨g, f, _, hp⟩
theorem PFsOk.at : ∀ {vs : List (Str × V)} {fs : List (Str × PF)}, PFsOk K F G H vs fs → ∀ {a : Addr}, a ∈ fs.flatMap (fun f => f.2.adr) → G a = none ∧ F a = none ∧ ∃ u, H a = some u
  | [], [], _, a, m => by cases m
  | (a, v) :: vs, (b, x) :: fs, h, c, m => by
    rw [List.flatMap_cons] at m
    rcases List.mem_append.mp m with m | m
    · exact h.2.1.at m
    · exact PFsOk.at h.2.2 m
  | [], _ :: _, h, _, _ => h.elim
  | _ :: _, [], h, _, _ => h.elim
theorem PXOk.at {o : Option V} {x : PX} (h : PXOk K F G H o x) {a : Addr} (m : a ∈ x.adr) : G a = none ∧ F a = none ∧ ∃ u, H a = some u := by
  obtain ⟨_, h⟩ := h
  cases x with
  | dct q w kvs =>
    obtain ⟨v, e, h⟩ := h
    exact PFOk.at h m
  | obj p C fs =>
    obtain ⟨e, g, f, dx, vs, hp, r⟩ := h
    rcases List.mem_cons.mp m with rfl | m
    · exact ⟨g, f, _, hp⟩
    · exact r.at m
/-- a slot's meaning hangs on what is known and on its own addresses -/
theorem SlOk.tr {o : Option V} {s : Sl} (h : SlOk K F G H o s) (eg : Same G G') (k : ∀ a, s.has o a → G a = none → F a = none → G' a = none ∧ F' a = none ∧ ∀ u, H a = some u → H' a = some u) : SlOk K F' G' H' o s := by
  cases s with
  | un => trivial
  | d x =>
    obtain ⟨v, e, r⟩ := h
    exact ⟨v, e, r.mono eg⟩
  | own a xs =>
    obtain ⟨p, vs, e, g, f, hp, r, an⟩ := h
    obtain ⟨g', f', u⟩ := k p e g f
    exact ⟨p, vs, e, g', f', u _ hp, r.mono eg, an⟩
  | obo a C fs =>
    obtain ⟨p, dx, vs, e, g, f, hp, r, an⟩ := h
    obtain ⟨g', f', u⟩ := k p e g f
    exact ⟨p, dx, vs, e, g', f', u _ hp, r.mono eg, an⟩
  | prv x => exact PXOk.tr h eg k
theorem SlOk.at {o : Option V} {s : Sl} (h : SlOk K F G H o s) {a : Addr} (m : s.has o a) : G a = none ∧ F a = none ∧ ∃ u, H a = some u := by
  cases s with
  | un => exact m.elim
  | d x => exact m.elim
  | own b xs =>
    obtain ⟨p, vs, e, g, f, hp, r, an⟩ := h
    rw [show o = some (.ref a) from m] at e
    cases e
    exact ⟨g, f, _, hp⟩
  | obo b C fs =>
    obtain ⟨p, dx, vs, e, g, f, hp, r, an⟩ := h
    rw [show o = some (.ref a) from m] at e
    cases e
    exact ⟨g, f, _, hp⟩
  | prv x => exact PXOk.at h m
/-- no exception's dict is a slot's own -/
theorem PFOk.xd {v : V} {x : PF} (h : PFOk K F G H v x) {a : Addr} (m : a ∈ x.adr) {fs : List (Str × V)} (e : H a = some (.xd fs)) : False := by
  cases x with
  | dat d => cases m
  | lst q ds =>
    obtain ⟨_, g, f, vs, hp, r⟩ := h
    rw [List.mem_singleton.mp m, hp] at e
    cases e
  | dic q w kvs =>
    obtain ⟨_, g, f, xs, hp, r⟩ := h
    rw [List.mem_singleton.mp m, hp] at e
    cases e
theorem PFsOk.xd : ∀ {vs : List (Str × V)} {fs : List (Str × PF)}, PFsOk K F G H vs fs → ∀ {a : Addr}, a ∈ fs.flatMap (fun f => f.2.adr) → ∀ {gs : List (Str × V)}, H a = some (.xd gs) → False
  | [], [], _, a, m, _, _ => by cases m
  | (a, v) :: vs, (b, x) :: fs, h, c, m, gs, e => by
    rw [List.flatMap_cons] at m
    rcases List.mem_append.mp m with m | m
    · exact h.2.1.xd m e
    · exact PFsOk.xd h.2.2 m e
  | [], _ :: _, h, _, _, _, _ => h.elim
  | _ :: _, [], h, _, _, _, _ => h.elim
theorem SlOk.xd {o : Option V} {s : Sl} (h : SlOk K F G H o s) {a : Addr} (m : s.has o a) {gs : List (Str × V)} (e : H a = some (.xd gs)) : False := by
  cases s with
  | un => exact m.elim
  | d x => exact m.elim
  | own b xs =>
    obtain ⟨p, vs, e2, g, f, hp, r, an⟩ := h
    rw [show o = some (.ref a) from m] at e2
    cases e2
    rw [hp] at e
    cases e
  | obo b C fs =>
    obtain ⟨p, dx, vs, e2, g, f, hp, r, an⟩ := h
    rw [show o = some (.ref a) from m] at e2
    cases e2
    rw [hp] at e
    cases e
  | prv x =>
    obtain ⟨_, h⟩ := h
    cases x with
    | dct q w kvs =>
      obtain ⟨v, _, h⟩ := h
      exact PFOk.xd h m e
    | obj p C fs =>
      obtain ⟨_, g, f, dx, vs, hp, r⟩ := h
      rcases List.mem_cons.mp m with rfl | m
      · rw [hp] at e
        cases e
      · exact r.xd m e
/-- a slot with an address of its own -/
theorem SlOk.hasOwn {o : Option V} {s : Sl} (h : SlOk K F G H o s) (k : s.isOwn = true) : ∃ a, o = some (.ref a) ∧ s.has o a := by
  cases s with
  | un => cases k
  | d x => cases k
  | own b xs =>
    obtain ⟨p, vs, e, _⟩ := h
    exact ⟨p, e, e⟩
  | obo b C fs =>
    obtain ⟨p, dx, vs, e, _⟩ := h
    exact ⟨p, e, e⟩
  | prv x =>
    obtain ⟨_, h⟩ := h
    cases x with
    | dct q w kvs =>
      obtain ⟨v, e, e2, _⟩ := h
      exact ⟨q, by rw [e, e2], List.mem_singleton.mpr rfl⟩
    | obj p C fs => exact ⟨p, h.1, List.mem_cons_self ..⟩
theorem Stt.ow (s : Stt K F G H σ es) (i j : Nat) (u t : Sl) (n : i ≠ j) (ei : es[i]? = some u) (ej : es[j]? = some t) (hi : u.isOwn = true) (hj : t.isOwn = true) : σ[i]? ≠ σ[j]? := fun q => by
  obtain ⟨x, hx, kx⟩ := s.sl i u ei
  obtain ⟨y, hy, ky⟩ := s.sl j t ej
  obtain ⟨a, ea, ha⟩ := kx.hasOwn hi
  obtain ⟨b, eb, hb⟩ := ky.hasOwn hj
  rw [hx, hy] at q
  have q := Option.some.inj q
  have : b = a := by
    rw [q, eb] at ea
    cases ea
    rfl
  subst this
  exact s.sp i j u t x y b n ei ej hx hy ha hb
/-- another slot does not have it -/
theorem Stt.apart (s : Stt K F G H σ es) {i j : Nat} {t u : Sl} {p : Addr} {x : Option V} (n : i ≠ j) (ei : es[i]? = some t) (ht : t.isOwn = true) (hs : σ[i]? = some (some (.ref p))) (ej : es[j]? = some u) (hx : σ[j]? = some x) : ∀ a, u.has x a → a ≠ p := fun a h e => by
  subst e
  obtain ⟨y, hy, ky⟩ := s.sl i t ei
  obtain ⟨b, eb, hb⟩ := ky.hasOwn ht
  rw [hs] at hy
  cases hy
  cases eb
  exact s.sp i j t u _ x _ n ei ej hs hx hb h
/-- slots that have no more than before -/
theorem sp_of (s : Spr σ es) (k : ∀ (j : Nat) t x a, es'[j]? = some t → σ'[j]? = some x → t.has x a → ∃ u y, es[j]? = some u ∧ σ[j]? = some y ∧ u.has y a) : Spr σ' es' := fun i j u t x y a n ei ej hi hj ha hb => by
  obtain ⟨u', x', e1, s1, a1⟩ := k i u x a ei hi ha
  obtain ⟨t', y', e2, s2, a2⟩ := k j t y a ej hj hb
  exact s i j u' t' x' y' a n e1 e2 s1 s2 a1 a2
/-- one slot has a new one -/
theorem sp_new (s : Spr σ es) (i : Nat) (P : Addr → Prop) (k : ∀ (j : Nat) t x a, es'[j]? = some t → σ'[j]? = some x → t.has x a → (j = i ∧ P a) ∨ ∃ u y, es[j]? = some u ∧ σ[j]? = some y ∧ u.has y a) (no : ∀ (j : Nat) u y a, j ≠ i → es[j]? = some u → σ[j]? = some y → u.has y a → P a → False) : Spr σ' es' := fun i1 j1 u t x y a n ei ej hi hj ha hb => by
  rcases k i1 u x a ei hi ha with ⟨e1, p1⟩ | ⟨u', x', e1, s1, a1⟩
  · rcases k j1 t y a ej hj hb with ⟨e2, _⟩ | ⟨t', y', e2, s2, a2⟩
    · exact n (e1.trans e2.symm)
    · exact no j1 t' y' a (fun z => n (e1.trans z.symm)) e2 s2 a2 p1
  · rcases k j1 t y a ej hj hb with ⟨e2, p2⟩ | ⟨t', y', e2, s2, a2⟩
    · exact no i1 u' x' a (fun z => n (z.trans e2.symm)) e1 s1 a1 p2
    · exact s i1 j1 u' t' x' y' a n e1 e2 s1 s2 a1 a2
theorem sp_data {ds : List Dt} : Spr σ (ds.map Sl.d) := fun i j u t x y a n ei ej hi hj ha hb => by
  rw [List.getElem?_map] at ei
  cases q : ds[i]? with
  | none => rw [q] at ei; cases ei
  | some d => rw [q] at ei; cases ei; exact ha
theorem sp_one {t : Sl} {ds : List Dt} : Spr σ (t :: ds.map Sl.d) := fun i j u w x y a n ei ej hi hj ha hb => by
  have no : ∀ (k : Nat) z (x : Option V), (ds.map Sl.d)[k]? = some z → z.has x a → False := fun k z x e h => by
    rw [List.getElem?_map] at e
    cases q : ds[k]? with
    | none => rw [q] at e; cases e
    | some d => rw [q] at e; cases e; exact h
  cases i with
  | zero =>
    cases j with
    | zero => exact n rfl
    | succ j => exact no j w y ej hb
  | succ i => exact no i u x ei ha
/-- slot i is set to data or forgotten, the others stand -/
theorem sp_set (s : Spr σ es) {i : Nat} {t : Sl} {v : Option V} (ht : ∀ x a, ¬ t.has x a) : Spr (σ.set i v) (es.set i t) := sp_of s fun j u x a ej hj h => by
  by_cases q : i = j
  · subst q
    have hl := (List.getElem?_eq_some_iff.mp ej).1
    rw [List.length_set] at hl
    rw [List.getElem?_set_self hl] at ej
    cases ej
    exact (ht x a h).elim
  · rw [List.getElem?_set_ne q] at ej hj
    exact ⟨u, x, ej, hj, h⟩
theorem sp_setE (s : Spr σ es) {i : Nat} {t : Sl} (ht : ∀ x a, ¬ t.has x a) : Spr σ (es.set i t) := sp_of s fun j u x a ej hj h => by
  by_cases q : i = j
  · subst q
    have hl := (List.getElem?_eq_some_iff.mp ej).1
    rw [List.length_set] at hl
    rw [List.getElem?_set_self hl] at ej
    cases ej
    exact (ht x a h).elim
  · rw [List.getElem?_set_ne q] at ej
    exact ⟨u, x, ej, hj, h⟩
/-- slot i has what it had -/
theorem sp_setK (s : Spr σ es) {i : Nat} {t t' : Sl} (e : es[i]? = some t) (ht : ∀ x a, t'.has x a → t.has x a) : Spr σ (es.set i t') := sp_of s fun j u x a ej hj h => by
  by_cases q : i = j
  · subst q
    have hl := (List.getElem?_eq_some_iff.mp ej).1
    rw [List.length_set] at hl
    rw [List.getElem?_set_self hl] at ej
    cases ej
    exact ⟨t, x, e, hj, ht x a h⟩
  · rw [List.getElem?_set_ne q] at ej
    exact ⟨u, x, ej, hj, h⟩
/-- slot i is set to an object that stood nowhere -/
theorem Stt.sp_lay (s : Stt K F G H σ es) {i : Nat} {t : Sl} {p : Addr} (hn : H p = none) (ht : ∀ x a, t.has x a → x = some (.ref a)) : Spr (σ.set i (some (.ref p))) (es.set i t) := sp_new s.sp i (fun a => a = p) (fun j u x a ej hj h => by
  by_cases q : i = j
  · subst q
    have hl := (List.getElem?_eq_some_iff.mp ej).1
    rw [List.length_set] at hl
    rw [List.getElem?_set_self hl] at ej
    rw [List.getElem?_set_self (by rw [s.len]; exact hl)] at hj
    cases ej
    cases hj
    refine .inl ⟨rfl, ?_⟩
    cases ht _ _ h
    rfl
  · rw [List.getElem?_set_ne q] at ej hj
    exact .inr ⟨u, x, ej, hj, h⟩) fun j u y a n ej hj h e => by
  subst e
  obtain ⟨x, hx, k⟩ := s.sl j u ej
  rw [hj] at hx
  cases hx
  obtain ⟨_, _, w, hw⟩ := k.at h
  rw [hn] at hw
  cases hw
/-- slot i is set to an object that was another's -/
theorem Stt.sp_take {p : Addr} {u0 : HO} (s : Stt K (upd F p u0) G H σ es) {i : Nat} {t : Sl} (ht : ∀ x a, t.has x a → x = some (.ref a)) : Spr (σ.set i (some (.ref p))) (es.set i t) := sp_new s.sp i (fun a => a = p) (fun j u x a ej hj h => by
  by_cases q : i = j
  · subst q
    have hl := (List.getElem?_eq_some_iff.mp ej).1
    rw [List.length_set] at hl
    rw [List.getElem?_set_self hl] at ej
    rw [List.getElem?_set_self (by rw [s.len]; exact hl)] at hj
    cases ej
    cases hj
    refine .inl ⟨rfl, ?_⟩
    cases ht _ _ h
    rfl
  · rw [List.getElem?_set_ne q] at ej hj
    exact .inr ⟨u, x, ej, hj, h⟩) fun j u y a n ej hj h e => by
  subst e
  obtain ⟨x, hx, k⟩ := s.sl j u ej
  rw [hj] at hx
  cases hx
  obtain ⟨_, f, _⟩ := k.at h
  rw [upd_same] at f
  cases f
theorem has_d {d : Dt} : ∀ x a, ¬ (Sl.d d).has x a := fun _ _ h => h
theorem has_un : ∀ x a, ¬ (Sl.un).has x a := fun _ _ h => h
end

section
variable {K : PySem.W.Frag} {F G H F' G' H' : Hp} {σ σ' : L2.St} {es : List Sl}

theorem not_some {H : Hp} {a : Addr} (h : ∀ o, H a = some o → False) : H a = none := by
  cases q : H a with
  | none => rfl
  | some o => exact (h o q).elim
theorem Stt.fnone (s : Stt K F G H σ es) {p : Addr} (h : H p = none) : F p = none := not_some fun o q => by
  have := s.f p o q
  rw [h] at this
  cases this
theorem Stt.gnone (s : Stt K F G H σ es) {p : Addr} (h : H p = none) : G p = none := not_some fun o q => by
  have := s.g p o q
  rw [h] at this
  cases this
theorem same_upd {H : Hp} {p : Addr} {o : HO} (h : H p = none) : Same H (upd H p o) := fun a u e => by
  rw [upd_ne (ne_of_none e h)]
  exact e
/-- heaps grow -/
theorem SlOk.grow {o : Option V} {s : Sl} (h : SlOk K F G H o s) (eg : Same G G') (eh : ∀ p u, G p = none → F p = none → H p = some u → H' p = some u) (hn : ∀ p, G p = none → (∃ u, H p = some u) → F p = none → G' p = none ∧ F' p = none) : SlOk K F' G' H' o s :=
  h.tr eg fun a m g f => by
    obtain ⟨_, _, hu⟩ := h.at m
    exact ⟨(hn a g hu f).1, (hn a g hu f).2, fun u e => eh a u g f e⟩
/-- a new object that is known from now on -/
theorem Stt.new (s : Stt K F G H σ es) {p : Addr} {o : HO} (h : H p = none) : Stt K F (upd G p o) (upd H p o) σ es where
  f := s.f.trans (same_upd h)
  g := fun a u e => by
    by_cases q : a = p
    · subst q
      rw [upd_same] at e ⊢
      exact e
    · rw [upd_ne q] at e ⊢
      exact s.g a u e
  dj := fun a u e => by
    have : a ≠ p := fun q => by
      subst q
      rw [s.fnone h] at e
      cases e
    rw [upd_ne this]
    exact s.dj a u e
  len := s.len
  sl := fun i t e => by
    obtain ⟨x, hx, k⟩ := s.sl i t e
    refine ⟨x, hx, k.grow (same_upd (s.gnone h)) (fun q u _ _ e => by rw [upd_ne (ne_of_none e h)]; exact e) fun q g ⟨u, hu⟩ f => ⟨by rw [upd_ne (ne_of_none hu h)]; exact g, f⟩⟩
  sp := s.sp
/-- a new object that is nobody's -/
theorem Stt.lay (s : Stt K F G H σ es) {p : Addr} {o : HO} (h : H p = none) : Stt K F G (upd H p o) σ es where
  f := s.f.trans (same_upd h)
  g := s.g.trans (same_upd h)
  dj := s.dj
  len := s.len
  sl := fun i t e => by
    obtain ⟨x, hx, k⟩ := s.sl i t e
    exact ⟨x, hx, k.grow (Same.refl _) (fun q u _ _ e => by rw [upd_ne (ne_of_none e h)]; exact e) fun q g _ f => ⟨g, f⟩⟩
  sp := s.sp
/-- what of H is not known -/
def rem (G H : Hp) : Hp := fun a => match G a with
  | none => H a
  | some _ => none
theorem rem_some {G H : Hp} {a : Addr} {o : HO} (h : rem G H a = some o) : H a = some o ∧ G a = none := by
  unfold rem at h
  cases q : G a with
  | none => rw [q] at h; exact ⟨h, rfl⟩
  | some x => rw [q] at h; cases h
theorem rem_of {G H : Hp} {a : Addr} (h : G a = none) : rem G H a = H a := by
  unfold rem
  rw [h]
/-- behind a call: all that was not known stands -/
theorem Stt.after (s : Stt K F G H σ es) (f : Same (rem G H) H') (g : Same G' H') (dj : ∀ a o, rem G H a = some o → G' a = none) (gg : Same G G') : Stt K F G' H' σ es where
  f := fun a o e => f a o (by rw [rem_of (s.dj a o e)]; exact s.f a o e)
  g := g
  dj := fun a o e => dj a o (by rw [rem_of (s.dj a o e)]; exact s.f a o e)
  len := s.len
  sl := fun i t e => by
    obtain ⟨x, hx, k⟩ := s.sl i t e
    exact ⟨x, hx, k.grow gg (fun q u hg _ e => f q u (by rw [rem_of hg]; exact e)) fun q hg ⟨u, hu⟩ hf => ⟨dj q u (by rw [rem_of hg]; exact hu), hf⟩⟩
  sp := s.sp

/-- a slot is set to data -/
theorem Stt.set (s : Stt K F G H σ es) {i : Nat} {v : V} {d : Dt} (r : Rep K G v d) : Stt K F G H (σ.set i (some v)) (es.set i (.d d)) where
  f := s.f
  g := s.g
  dj := s.dj
  len := by rw [List.length_set, List.length_set]; exact s.len
  sl := fun j t e => by
    by_cases q : i = j
    · subst q
      have hj : i < es.length := by
        have := (List.getElem?_eq_some_iff.mp e).1
        rwa [List.length_set] at this
      rw [List.getElem?_set_self hj] at e
      cases e
      exact ⟨some v, List.getElem?_set_self (by rw [s.len]; exact hj), v, rfl, r⟩
    · rw [List.getElem?_set_ne q] at e
      rw [List.getElem?_set_ne q]
      exact s.sl j t e
  sp := sp_set s.sp has_d
/-- a slot is set to an object that is laid just now -/
theorem Stt.setOwn (s : Stt K F G H σ es) {i : Nat} {p : Addr} {t : Sl} {H' : Hp} (hn : H p = none) (eh : ∀ a o, H a = some o → H' a = some o) (ht : t.isOwn = true) (k : SlOk K F G H' (some (.ref p)) t) (hh : ∀ x a, t.has x a → x = some (.ref a) := by exact fun _ _ h => h) : Stt K F G H' (σ.set i (some (.ref p))) (es.set i t) where
  f := fun a o e => eh a o (s.f a o e)
  g := fun a o e => eh a o (s.g a o e)
  dj := s.dj
  len := by rw [List.length_set, List.length_set]; exact s.len
  sl := fun j u e => by
    by_cases q : i = j
    · subst q
      have hj : i < es.length := by
        have := (List.getElem?_eq_some_iff.mp e).1
        rwa [List.length_set] at this
      rw [List.getElem?_set_self hj] at e
      cases e
      exact ⟨_, List.getElem?_set_self (by rw [s.len]; exact hj), k⟩
    · rw [List.getElem?_set_ne q] at e
      rw [List.getElem?_set_ne q]
      obtain ⟨x, hx, k⟩ := s.sl j u e
      exact ⟨x, hx, k.grow (Same.refl _) (fun q u _ _ e => eh q u e) fun q g _ f => ⟨g, f⟩⟩
  sp := s.sp_lay hn hh
/-- slots forgotten -/
def Wk : List Sl → List Sl → Prop
  | [], [] => True
  | a :: as, b :: bs => (b = .un ∨ a = b) ∧ Wk as bs
  | _, _ => False
theorem Wk.len : ∀ {as bs : List Sl}, Wk as bs → as.length = bs.length
  | [], [], _ => rfl
  | _ :: _, _ :: _, h => congrArg (· + 1) (Wk.len h.2)
  | [], _ :: _, h => h.elim
  | _ :: _, [], h => h.elim
theorem Wk.get : ∀ {as bs : List Sl} {i : Nat} {b : Sl}, Wk as bs → bs[i]? = some b → ∃ a, as[i]? = some a ∧ (b = .un ∨ a = b)
  | [], [], _, _, _, e => by simp at e
  | a :: as, b :: bs, 0, c, h, e => by simp at e; subst e; exact ⟨a, rfl, h.1⟩
  | a :: as, b :: bs, i + 1, c, h, e => by
    obtain ⟨x, h1, h2⟩ := Wk.get (i := i) h.2 (by simpa using e)
    exact ⟨x, by simpa using h1, h2⟩
  | [], _ :: _, _, _, h, _ => h.elim
  | _ :: _, [], _, _, h, _ => h.elim
theorem Wk.refl : ∀ (as : List Sl), Wk as as
  | [] => trivial
  | _ :: as => ⟨.inr rfl, Wk.refl as⟩
theorem Stt.wk (s : Stt K F G H σ es) {fs : List Sl} (w : Wk es fs) : Stt K F G H σ fs where
  f := s.f
  g := s.g
  dj := s.dj
  len := by rw [s.len, w.len]
  sl := fun i t e => by
    obtain ⟨a, ha, q⟩ := w.get e
    obtain ⟨x, hx, k⟩ := s.sl i a ha
    refine ⟨x, hx, ?_⟩
    rcases q with q | q
    · subst q; trivial
    · subst q; exact k
  sp := sp_of s.sp fun j t x a ej hj h => by
    obtain ⟨u, hu, q⟩ := w.get ej
    rcases q with q | q
    · subst q; exact h.elim
    · subst q; exact ⟨u, x, hu, hj, h⟩
end

/-! ### what an expression gives -/
def Ev (K : PySem.W.Frag) (te : TE) (es : List Sl) (d : Dt) : Prop := ∀ F G H σ, Stt K F G H σ es → ∀ Q : VK, (∀ v G' H', Stt K F G' H' σ es → Same G G' → Rep K G' v d → Q v H') → te σ H Q
def EvT (K : PySem.W.Frag) (t : TT) (es : List Sl) (b : Bool) : Prop := ∀ F G H σ, Stt K F G H σ es → ∀ Q : Bool → Hp → Prop, (∀ G' H', Stt K F G' H' σ es → Same G G' → Q b H') → t σ H Q
def EvA (K : PySem.W.Frag) (ta : TA) (es : List Sl) (ds : List Dt) : Prop := ∀ F G H σ, Stt K F G H σ es → ∀ Q : List V → Hp → Prop, (∀ vs G' H', Stt K F G' H' σ es → Same G G' → Reps K G' vs ds → Q vs H') → ta σ H Q
def EvO (K : PySem.W.Frag) (t : TO) (es : List Sl) (o : Option Int) : Prop := ∀ F G H σ, Stt K F G H σ es → ∀ Q : Option Int → Hp → Prop, (∀ G' H', Stt K F G' H' σ es → Same G G' → Q o H') → t σ H Q
/-- a two-place operation on data -/
def R2D (K : PySem.W.Frag) (r : R2) (a b c : Dt) : Prop := ∀ F G H σ es x y, Stt K F G H σ es → Rep K G x a → Rep K G y b → ∀ Q : VK, (∀ v G' H', Stt K F G' H' σ es → Same G G' → Rep K G' v c → Q v H') → r x y H Q
def R1D (K : PySem.W.Frag) (r : V → Hp → VK → Prop) (a c : Dt) : Prop := ∀ F G H σ es x, Stt K F G H σ es → Rep K G x a → ∀ Q : VK, (∀ v G' H', Stt K F G' H' σ es → Same G G' → Rep K G' v c → Q v H') → r x H Q
def RLD (K : PySem.W.Frag) (r : List V → Hp → VK → Prop) (as : List Dt) (c : Dt) : Prop := ∀ F G H σ es xs, Stt K F G H σ es → Reps K G xs as → ∀ Q : VK, (∀ v G' H', Stt K F G' H' σ es → Same G G' → Rep K G' v c → Q v H') → r xs H Q

section
variable {K : PySem.W.Frag} {es : List Sl} {ta tb te : TE} {t u : TT} {a b c d : Dt} {r : R2}

theorem ev_is (h : Ev K te es a) (e : a = b) : Ev K te es b := e ▸ h
theorem et_is {x y : Bool} (h : EvT K t es x) (e : x = y) : EvT K t es y := e ▸ h
theorem ev_var {i : Nat} (h : es[i]? = some (.d d)) : Ev K (tVar i) es d := fun F G H σ s Q q => by
  obtain ⟨o, ho, v, e, r⟩ := s.sl i _ h
  subst e
  exact ⟨v, ho, q v G H s (Same.refl _) r⟩
theorem ev_int {i : Int} : Ev K (tC (.int i)) es (.int i) := fun F G H σ s Q q => q _ G H s (Same.refl _) (.int i)
theorem ev_bl {i : Bool} : Ev K (tC (.bl i)) es (.bl i) := fun F G H σ s Q q => q _ G H s (Same.refl _) (.bl i)
theorem ev_str {i : Str} : Ev K (tC (.str i)) es (.str i) := fun F G H σ s Q q => q _ G H s (Same.refl _) (.str i)
theorem ev_non : Ev K (tC .non) es .non := fun F G H σ s Q q => q _ G H s (Same.refl _) .non
theorem ev_op (ha : Ev K ta es a) (hb : Ev K tb es b) (hr : R2D K r a b c) : Ev K (tOp r ta tb) es c := fun F G H σ s Q q =>
  ha F G H σ s _ fun x G1 H1 s1 g1 r1 => hb F G1 H1 σ s1 _ fun y G2 H2 s2 g2 r2 => hr F G2 H2 σ es x y s2 (r1.mono g2) r2 Q fun v G3 H3 s3 g3 r3 => q v G3 H3 s3 (g1.trans (g2.trans g3)) r3
theorem ev_un {r : V → Hp → VK → Prop} (ha : Ev K ta es a) (hr : R1D K r a c) : Ev K (tUn r ta) es c := fun F G H σ s Q q =>
  ha F G H σ s _ fun x G1 H1 s1 g1 r1 => hr F G1 H1 σ es x s1 r1 Q fun v G3 H3 s3 g3 r3 => q v G3 H3 s3 (g1.trans g3) r3
theorem ea_nil : EvA K tNil es [] := fun F G H σ s Q q => q [] G H s (Same.refl _) .nil
theorem ea_cons {tr : TA} {ds : List Dt} (ha : Ev K ta es a) (hr : EvA K tr es ds) : EvA K (tCons ta tr) es (a :: ds) := fun F G H σ s Q q =>
  ha F G H σ s _ fun x G1 H1 s1 g1 r1 => hr F G1 H1 σ s1 _ fun xs G2 H2 s2 g2 r2 => q _ G2 H2 s2 (g1.trans g2) (.cons (r1.mono g2) r2)
theorem ev_tup {t : TA} {ds : List Dt} (h : EvA K t es ds) (hl : ds.length ≤ 100000) : Ev K (tTup t) es (.tup ds) := fun F G H σ s Q q =>
  h F G H σ s _ fun xs G1 H1 s1 g1 r1 => ⟨by rw [r1.length]; exact Nat.le_trans hl (by decide), fun p hp =>
    q _ _ _ (s1.new hp) (g1.trans (same_upd (s1.gnone hp))) (.tup (.inl (.inl upd_same)) (r1.mono (same_upd (s1.gnone hp))))⟩
theorem ev_cb {t : TA} {r : List V → Hp → VK → Prop} {ds : List Dt} (h : EvA K t es ds) (hr : RLD K r ds c) : Ev K (tCB r t) es c := fun F G H σ s Q q =>
  h F G H σ s _ fun xs G1 H1 s1 g1 r1 => hr F G1 H1 σ es xs s1 r1 Q fun v G2 H2 s2 g2 r2 => q v G2 H2 s2 (g1.trans g2) r2

/-! ### operations on ints -/
theorem r2_I0 {g : Int → Int → V} {i j : Int} {c : Dt} (hg : ∀ G, Rep K G (g i j) c) : R2D K (rI0 g) (.int i) (.int j) c := fun F G H σ es x y s rx ry Q q => by
  cases rx
  cases ry
  exact ⟨i, j, rfl, rfl, q _ G H s (Same.refl _) (hg G)⟩
theorem r2_I {C : Int → Int → Prop} {g : Int → Int → V} {i j : Int} {c : Dt} (hc : C i j) (hg : ∀ G, Rep K G (g i j) c) : R2D K (rI C g) (.int i) (.int j) c := fun F G H σ es x y s rx ry Q q => by
  cases rx
  cases ry
  exact ⟨i, j, rfl, rfl, hc, q _ G H s (Same.refl _) (hg G)⟩
theorem r2_int {g : Int → Int → Int} {i j : Int} : R2D K (rI0 fun i j => .int (g i j)) (.int i) (.int j) (.int (g i j)) := r2_I0 fun _ => .int _
theorem r2_bl {g : Int → Int → Bool} {i j : Int} : R2D K (rI0 fun i j => .bl (g i j)) (.int i) (.int j) (.bl (g i j)) := r2_I0 fun _ => .bl _
theorem r2_intC {C : Int → Int → Prop} {g : Int → Int → Int} {i j : Int} (hc : C i j) : R2D K (rI C fun i j => .int (g i j)) (.int i) (.int j) (.int (g i j)) := r2_I hc fun _ => .int _
theorem r1_int {g : Int → Int} {i : Int} : R1D K (rU fun i => .int (g i)) (.int i) (.int (g i)) := fun F G H σ es x s rx Q q => by
  cases rx
  exact ⟨i, rfl, q _ G H s (Same.refl _) (.int _)⟩
theorem r1_neg {i : Int} : R1D K (rU fun i => .int (-i)) (.int i) (.int (-i)) := r1_int

/-! the operations that ask something, as partial functions -/
def mulC (i j : Int) : Option Int := if i.natAbs.log2 + j.natAbs.log2 < 100000000 then some (i * j) else none
def divC (i j : Int) : Option Int := if 0 < j ∧ j.natAbs.log2 < 9000 then some (i / j) else none
def modC (i j : Int) : Option Int := if 0 < j then some (i % j) else none
def powC (i j : Int) : Option Int := if 0 ≤ j ∧ ((i.natAbs.log2 : Int) + 1) * j ≤ 134217728 then some (i ^ j.toNat) else none
def shlC (i j : Int) : Option Int := if 0 ≤ j ∧ (i.natAbs.log2 : Int) + 1 + j ≤ 134217728 then some (i * 2 ^ j.toNat) else none
def shrC (i j : Int) : Option Int := if 0 ≤ j then some (i / 2 ^ j.toNat) else none
theorem bits_lg (x : Int) : (Builtin.Int.intBits x : Int) ≤ (x.natAbs.log2 : Int) + 1 := by
  unfold Builtin.Int.intBits
  split <;> omega
def CPowG (i j : Int) : Prop := 0 ≤ j ∧ ((i.natAbs.log2 : Int) + 1) * j ≤ 134217728
def CShlG (i j : Int) : Prop := 0 ≤ j ∧ (i.natAbs.log2 : Int) + 1 + j ≤ 134217728
theorem CPowG.ok {i j : Int} (h : CPowG i j) : (Builtin.Int.intBits i : Int) * j ≤ 2 ^ 27 := by
  have := Int.mul_le_mul_of_nonneg_right (bits_lg i) h.1
  have := h.2
  omega
theorem CShlG.ok {i j : Int} (h : CShlG i j) : (Builtin.Int.intBits i : Int) + j ≤ 2 ^ 27 := by
  have := bits_lg i
  have := h.2
  omega
theorem op_powG {X : Cx} : OpR X (binaryOp .Pow) (rI CPowG fun i j => .int (i ^ j.toNat)) := opI fun _ _ _ _ _ _ _ hc q => PyProof.Rows.pow_int hc.1 hc.ok q
theorem op_shlG {X : Cx} : OpR X (binaryOp .LShift) (rI CShlG fun i j => .int (i * 2 ^ j.toNat)) := opI fun _ _ _ _ _ _ _ hc q => PyProof.Rows.lshift_int hc.1 hc.ok q
/-- * of two factors of together less than a hundred million bits -/
def CMulG (i j : Int) : Prop := i.natAbs.log2 + j.natAbs.log2 < 100000000
theorem CMulG.ok {i j : Int} (h : CMulG i j) : IntMulOk i j := by
  have b : ∀ x : Int, Builtin.Int.intBits x ≤ x.natAbs.log2 + 1 := fun x => by
    unfold Builtin.Int.intBits
    split <;> omega
  have h1 := b i
  have h2 := b j
  have h3 : i.natAbs.log2 + j.natAbs.log2 < 100000000 := h
  have e : bitsLine = 134217728 := by decide
  unfold IntMulOk
  intro z
  rw [Bool.and_eq_true] at z
  have z2 := z.2
  unfold Builtin.Int.intTooBig at z2
  have z3 := of_decide_eq_true z2
  rw [e] at z3
  omega
theorem op_mulG {X : Cx} : OpR X (binaryOp .Mult) (rI CMulG fun i j => .int (i * j)) := opI fun _ _ _ _ _ _ _ hc q => PyProof.Rows.mul_int q hc.ok
theorem ite_some {α : Type} {p : Prop} [Decidable p] {x y : α} (h : (if p then some x else none) = some y) : p ∧ x = y := by
  by_cases q : p
  · rw [if_pos q] at h
    exact ⟨q, Option.some.inj h⟩
  · rw [if_neg q] at h
    cases h
theorem ev_mul {i j k : Int} (ha : Ev K ta es (.int i)) (hb : Ev K tb es (.int j)) (h : mulC i j = some k) : Ev K (tOp (rI CMulG fun i j => .int (i * j)) ta tb) es (.int k) := by
  obtain ⟨h1, h2⟩ := ite_some h
  subst h2
  exact ev_op ha hb (r2_intC h1)
theorem ev_div {i j k : Int} (ha : Ev K ta es (.int i)) (hb : Ev K tb es (.int j)) (h : divC i j = some k) : Ev K (tOp (rI CDivW fun i j => .int (i / j)) ta tb) es (.int k) := by
  obtain ⟨h1, h2⟩ := ite_some h
  subst h2
  exact ev_op ha hb (r2_intC h1)
theorem ev_mod {i j k : Int} (ha : Ev K ta es (.int i)) (hb : Ev K tb es (.int j)) (h : modC i j = some k) : Ev K (tOp (rI (fun _ j => 0 < j) fun i j => .int (i % j)) ta tb) es (.int k) := by
  obtain ⟨h1, h2⟩ := ite_some h
  subst h2
  exact ev_op ha hb (r2_I h1 fun _ => .int _)
theorem ev_pow {i j k : Int} (ha : Ev K ta es (.int i)) (hb : Ev K tb es (.int j)) (h : powC i j = some k) : Ev K (tOp (rI CPowG fun i j => .int (i ^ j.toNat)) ta tb) es (.int k) := by
  obtain ⟨h1, h2⟩ := ite_some h
  subst h2
  exact ev_op ha hb (r2_intC h1)
theorem ev_shl {i j k : Int} (ha : Ev K ta es (.int i)) (hb : Ev K tb es (.int j)) (h : shlC i j = some k) : Ev K (tOp (rI CShlG fun i j => .int (i * 2 ^ j.toNat)) ta tb) es (.int k) := by
  obtain ⟨h1, h2⟩ := ite_some h
  subst h2
  exact ev_op ha hb (r2_intC h1)
theorem ev_shr {i j k : Int} (ha : Ev K ta es (.int i)) (hb : Ev K tb es (.int j)) (h : shrC i j = some k) : Ev K (tOp (rI (fun _ j => 0 ≤ j) fun i j => .int (i / 2 ^ j.toNat)) ta tb) es (.int k) := by
  obtain ⟨h1, h2⟩ := ite_some h
  subst h2
  exact ev_op ha hb (r2_I h1 fun _ => .int _)
theorem ev_add {i j : Int} (ha : Ev K ta es (.int i)) (hb : Ev K tb es (.int j)) : Ev K (tOp (rI0 fun i j => .int (i + j)) ta tb) es (.int (i + j)) := ev_op ha hb r2_int
theorem ev_sub {i j : Int} (ha : Ev K ta es (.int i)) (hb : Ev K tb es (.int j)) : Ev K (tOp (rI0 fun i j => .int (i - j)) ta tb) es (.int (i - j)) := ev_op ha hb r2_int
theorem ev_neg {i : Int} (ha : Ev K ta es (.int i)) : Ev K (tUn (rU fun i => .int (-i)) ta) es (.int (-i)) := ev_un ha r1_neg
theorem ev_lt {i j : Int} (ha : Ev K ta es (.int i)) (hb : Ev K tb es (.int j)) : Ev K (tOp (rI0 fun i j => .bl (decide (i < j))) ta tb) es (.bl (decide (i < j))) := ev_op ha hb r2_bl
theorem ev_le {i j : Int} (ha : Ev K ta es (.int i)) (hb : Ev K tb es (.int j)) : Ev K (tOp (rI0 fun i j => .bl (decide (i ≤ j))) ta tb) es (.bl (decide (i ≤ j))) := ev_op ha hb r2_bl
theorem ev_gt {i j : Int} (ha : Ev K ta es (.int i)) (hb : Ev K tb es (.int j)) : Ev K (tOp (rI0 fun i j => .bl (decide (j < i))) ta tb) es (.bl (decide (j < i))) := ev_op ha hb r2_bl
theorem ev_ge {i j : Int} (ha : Ev K ta es (.int i)) (hb : Ev K tb es (.int j)) : Ev K (tOp (rI0 fun i j => .bl (decide (j ≤ i))) ta tb) es (.bl (decide (j ≤ i))) := ev_op ha hb r2_bl
/-- what is one value without objects -/
def fl : Dt → V
  | .non => .non | .bl b => .bl b | .int i => .int i | .str s => .str s | _ => .ref 0
def isFl : Dt → Bool
  | .non => true | .bl _ => true | .int _ => true | .str _ => true | _ => false
theorem rep_fl {G : Hp} {x : V} {d : Dt} (h : isFl d = true) (r : Rep K G x d) : x = fl d := by
  cases r <;> first | rfl | cases h
theorem r2_eq {a b : Dt} (h : scal (fl a) (fl b) = true) (ha : isFl a = true) (hb : isFl b = true) : R2D K rEq a b (.bl (decide (fl a = fl b))) := fun F G H σ es x y s rx ry Q q => by
  rw [rep_fl ha rx, rep_fl hb ry]
  exact ⟨h, q _ G H s (Same.refl _) (.bl _)⟩
theorem r2_ne {a b : Dt} (h : scal (fl a) (fl b) = true) (ha : isFl a = true) (hb : isFl b = true) : R2D K rNe a b (.bl (!decide (fl a = fl b))) := fun F G H σ es x y s rx ry Q q => by
  rw [rep_fl ha rx, rep_fl hb ry]
  exact ⟨h, q _ G H s (Same.refl _) (.bl _)⟩
theorem dec_congr {p q : Prop} [Decidable p] [Decidable q] (h : p ↔ q) : decide p = decide q := by
  by_cases e : p
  · rw [decide_eq_true e, decide_eq_true (h.mp e)]
  · rw [decide_eq_false e, decide_eq_false fun z => e (h.mpr z)]
theorem ev_eqI {i j : Int} (ha : Ev K ta es (.int i)) (hb : Ev K tb es (.int j)) : Ev K (tOp rEq ta tb) es (.bl (decide (i = j))) := by
  have h : Ev K (tOp rEq ta tb) es (.bl (decide (V.int i = V.int j))) := ev_op ha hb (r2_eq rfl rfl rfl)
  rwa [dec_congr ⟨fun q : V.int i = V.int j => V.int.inj q, fun q => congrArg _ q⟩] at h
theorem ev_neI {i j : Int} (ha : Ev K ta es (.int i)) (hb : Ev K tb es (.int j)) : Ev K (tOp rNe ta tb) es (.bl (!decide (i = j))) := by
  have h : Ev K (tOp rNe ta tb) es (.bl (!decide (V.int i = V.int j))) := ev_op ha hb (r2_ne rfl rfl rfl)
  rwa [dec_congr ⟨fun q : V.int i = V.int j => V.int.inj q, fun q => congrArg _ q⟩] at h
theorem ev_eqB {i j : Bool} (ha : Ev K ta es (.bl i)) (hb : Ev K tb es (.bl j)) : Ev K (tOp rEq ta tb) es (.bl (decide (i = j))) := by
  have h : Ev K (tOp rEq ta tb) es (.bl (decide (V.bl i = V.bl j))) := ev_op ha hb (r2_eq rfl rfl rfl)
  rwa [dec_congr ⟨fun q : V.bl i = V.bl j => V.bl.inj q, fun q => congrArg _ q⟩] at h
theorem ev_neB {i j : Bool} (ha : Ev K ta es (.bl i)) (hb : Ev K tb es (.bl j)) : Ev K (tOp rNe ta tb) es (.bl (!decide (i = j))) := by
  have h : Ev K (tOp rNe ta tb) es (.bl (!decide (V.bl i = V.bl j))) := ev_op ha hb (r2_ne rfl rfl rfl)
  rwa [dec_congr ⟨fun q : V.bl i = V.bl j => V.bl.inj q, fun q => congrArg _ q⟩] at h
theorem ev_eqS {i j : Str} (ha : Ev K ta es (.str i)) (hb : Ev K tb es (.str j)) : Ev K (tOp rEq ta tb) es (.bl (decide (i = j))) := by
  have h : Ev K (tOp rEq ta tb) es (.bl (decide (V.str i = V.str j))) := ev_op ha hb (r2_eq rfl rfl rfl)
  rwa [dec_congr ⟨fun q : V.str i = V.str j => V.str.inj q, fun q => congrArg _ q⟩] at h
theorem ev_neS {i j : Str} (ha : Ev K ta es (.str i)) (hb : Ev K tb es (.str j)) : Ev K (tOp rNe ta tb) es (.bl (!decide (i = j))) := by
  have h : Ev K (tOp rNe ta tb) es (.bl (!decide (V.str i = V.str j))) := ev_op ha hb (r2_ne rfl rfl rfl)
  rwa [dec_congr ⟨fun q : V.str i = V.str j => V.str.inj q, fun q => congrArg _ q⟩] at h

/-! ### tests, and, or, not, if -/
theorem et_test {b : Bool} (h : Ev K te es (.bl b)) : EvT K (tTest te) es b := fun F G H σ s Q q => h F G H σ s _ fun v G1 H1 s1 g1 r1 => by
  cases r1
  exact ⟨b, rfl, q G1 H1 s1 g1⟩
theorem et_B {b : Bool} (h : Ev K te es (.bl b)) : EvT K (tB te) es b := fun F G H σ s Q q => h F G H σ s _ fun v G1 H1 s1 g1 r1 => by
  cases r1
  exact ⟨b, rfl, q G1 H1 s1 g1⟩
theorem et_not {b : Bool} (h : EvT K t es b) : EvT K (tNot t) es (!b) := fun F G H σ s Q q => h F G H σ s _ fun G1 H1 s1 g1 => q G1 H1 s1 g1
theorem et_and {x y : Bool} (h1 : EvT K t es x) (h2 : x = true → EvT K u es y) : EvT K (tAnd t u) es (x && y) := fun F G H σ s Q q => h1 F G H σ s _ fun G1 H1 s1 g1 => by
  cases x with
  | true =>
    show u σ H1 Q
    exact h2 rfl F G1 H1 σ s1 Q fun G2 H2 s2 g2 => q G2 H2 s2 (g1.trans g2)
  | false => exact q G1 H1 s1 g1
theorem et_or {x y : Bool} (h1 : EvT K t es x) (h2 : x = false → EvT K u es y) : EvT K (tOr t u) es (x || y) := fun F G H σ s Q q => h1 F G H σ s _ fun G1 H1 s1 g1 => by
  cases x with
  | false =>
    show u σ H1 Q
    exact h2 rfl F G1 H1 σ s1 Q fun G2 H2 s2 g2 => q G2 H2 s2 (g1.trans g2)
  | true => exact q G1 H1 s1 g1
theorem et_andC {x z : Bool} {m : Option Bool} (h1 : EvT K t es x) (h2 : x = true → ∀ y, m = some y → EvT K u es y) (h : (if x = true then m else some false) = some z) : EvT K (tAnd t u) es z := by
  cases x with
  | true => exact et_is (et_and h1 fun e => h2 e z h) rfl
  | false =>
    have e : false = z := Option.some.inj h
    exact et_is (et_and (y := true) h1 fun e => nomatch e) e
theorem et_orC {x z : Bool} {m : Option Bool} (h1 : EvT K t es x) (h2 : x = false → ∀ y, m = some y → EvT K u es y) (h : (if x = true then some true else m) = some z) : EvT K (tOr t u) es z := by
  cases x with
  | false => exact et_is (et_or h1 fun e => h2 e z h) rfl
  | true =>
    have e : true = z := Option.some.inj h
    exact et_is (et_or (y := true) h1 fun e => nomatch e) e
theorem ev_notV {x : Bool} (h1 : Ev K ta es (.bl x)) : Ev K (tNotV ta) es (.bl (!x)) := fun F G H σ s Q q => h1 F G H σ s _ fun v G1 H1 s1 g1 r1 => by
  cases r1
  exact ⟨x, rfl, q _ G1 H1 s1 g1 (.bl _)⟩
theorem ev_andV {x y : Bool} (h1 : Ev K ta es (.bl x)) (h2 : x = true → Ev K tb es (.bl y)) : Ev K (tAndV ta tb) es (.bl (x && y)) := fun F G H σ s Q q => h1 F G H σ s _ fun v G1 H1 s1 g1 r1 => by
  cases r1
  refine ⟨x, rfl, ?_⟩
  cases x with
  | true =>
    show tb σ H1 Q
    exact h2 rfl F G1 H1 σ s1 Q fun v G2 H2 s2 g2 r2 => q v G2 H2 s2 (g1.trans g2) r2
  | false => exact q _ G1 H1 s1 g1 (.bl _)
theorem ev_orV {x y : Bool} (h1 : Ev K ta es (.bl x)) (h2 : x = false → Ev K tb es (.bl y)) : Ev K (tOrV ta tb) es (.bl (x || y)) := fun F G H σ s Q q => h1 F G H σ s _ fun v G1 H1 s1 g1 r1 => by
  cases r1
  refine ⟨x, rfl, ?_⟩
  cases x with
  | false =>
    show tb σ H1 Q
    exact h2 rfl F G1 H1 σ s1 Q fun v G2 H2 s2 g2 r2 => q v G2 H2 s2 (g1.trans g2) r2
  | true => exact q _ G1 H1 s1 g1 (.bl _)
theorem ev_andVC {x z : Bool} {m : Option Bool} (h1 : Ev K ta es (.bl x)) (h2 : x = true → ∀ y, m = some y → Ev K tb es (.bl y)) (h : (if x = true then m else some false) = some z) : Ev K (tAndV ta tb) es (.bl z) := by
  cases x with
  | true => exact ev_is (ev_andV h1 fun e => h2 e z h) rfl
  | false =>
    have e : false = z := Option.some.inj h
    exact ev_is (ev_andV (y := true) h1 fun e => nomatch e) (congrArg _ e)
theorem ev_orVC {x z : Bool} {m : Option Bool} (h1 : Ev K ta es (.bl x)) (h2 : x = false → ∀ y, m = some y → Ev K tb es (.bl y)) (h : (if x = true then some true else m) = some z) : Ev K (tOrV ta tb) es (.bl z) := by
  cases x with
  | false => exact ev_is (ev_orV h1 fun e => h2 e z h) rfl
  | true =>
    have e : true = z := Option.some.inj h
    exact ev_is (ev_orV (y := true) h1 fun e => nomatch e) (congrArg _ e)
theorem ev_if {x : Bool} (h : EvT K t es x) (h1 : x = true → Ev K ta es d) (h2 : x = false → Ev K tb es d) : Ev K (tIf t ta tb) es d := fun F G H σ s Q q => h F G H σ s _ fun G1 H1 s1 g1 => by
  cases x with
  | true =>
    show ta σ H1 Q
    exact h1 rfl F G1 H1 σ s1 Q fun v G2 H2 s2 g2 r2 => q v G2 H2 s2 (g1.trans g2) r2
  | false =>
    show tb σ H1 Q
    exact h2 rfl F G1 H1 σ s1 Q fun v G2 H2 s2 g2 r2 => q v G2 H2 s2 (g1.trans g2) r2
/-- a if t else b, both without asking -/
theorem ev_ifP {α : Type} {x : Bool} {p q : α} {em : α → Dt} (h : EvT K t es x) (h1 : Ev K ta es (em p)) (h2 : Ev K tb es (em q)) : Ev K (tIf t ta tb) es (em (if x = true then p else q)) := by
  cases x with
  | true => exact ev_if h (fun _ => h1) fun e => nomatch e
  | false => exact ev_if h (fun e => nomatch e) fun _ => h2
theorem ev_ifC {α : Type} {x : Bool} {p q : Option α} {em : α → Dt} {z : α} (h : EvT K t es x) (h1 : x = true → ∀ y, p = some y → Ev K ta es (em y)) (h2 : x = false → ∀ y, q = some y → Ev K tb es (em y)) (e : (if x = true then p else q) = some z) : Ev K (tIf t ta tb) es (em z) := by
  cases x with
  | true => exact ev_if h (fun _ => h1 rfl z e) fun e => nomatch e
  | false => exact ev_if h (fun e => nomatch e) fun _ => h2 rfl z e
/-- a op1 b op2 c -/
theorem ev_chain {r r' : R2} {tc : TE} {x y : Bool} (ha : Ev K ta es a) (hb : Ev K tb es b) (hr : R2D K r a b (.bl x)) (hc : x = true → Ev K tc es c) (hr' : x = true → R2D K r' b c (.bl y)) : Ev K (tChain r r' ta tb tc) es (.bl (x && y)) := fun F G H σ s Q q =>
  ha F G H σ s _ fun v1 G1 H1 s1 g1 r1 => hb F G1 H1 σ s1 _ fun v2 G2 H2 s2 g2 r2 => hr F G2 H2 σ es v1 v2 s2 (r1.mono g2) r2 _ fun z G3 H3 s3 g3 r3 => by
    cases r3
    refine ⟨x, rfl, ?_⟩
    cases x with
    | true =>
      show tc σ H3 fun w' H4 => r' v2 w' H4 Q
      exact hc rfl F G3 H3 σ s3 _ fun v4 G4 H4 s4 g4 r4 => hr' rfl F G4 H4 σ es v2 v4 s4 ((r2.mono g3).mono g4) r4 Q fun v5 G5 H5 s5 g5 r5 => q v5 G5 H5 s5 (g1.trans (g2.trans (g3.trans (g4.trans g5)))) r5
    | false => exact q _ G3 H3 s3 (g1.trans (g2.trans g3)) (.bl _)
theorem ev_chainC {r r' : R2} {tc : TE} {α : Type} {em : α → Dt} {x z : Bool} {m : Option α} {f : α → Bool} (ha : Ev K ta es a) (hb : Ev K tb es b) (hr : R2D K r a b (.bl x)) (hc : x = true → ∀ w, m = some w → Ev K tc es (em w)) (hr' : ∀ w, R2D K r' b (em w) (.bl (f w)))
    (h : (if x = true then m.bind fun w => some (f w) else some false) = some z) : Ev K (tChain r r' ta tb tc) es (.bl z) := by
  cases x with
  | true =>
    cases hm : m with
    | none => rw [hm] at h; cases h
    | some w =>
      rw [hm] at h
      have e : f w = z := Option.some.inj h
      exact ev_is (ev_chain ha hb hr (fun e => hc e w hm) fun _ => hr' w) (congrArg _ e)
  | false =>
    have e : false = z := Option.some.inj h
    exact ev_is (ev_chain (c := .non) (y := true) ha hb hr (fun e => nomatch e) fun e => nomatch e) (congrArg _ e)
theorem c_lt {i j : Int} : R2D K (rI0 fun i j => .bl (decide (i < j))) (.int i) (.int j) (.bl (decide (i < j))) := r2_bl
theorem c_le {i j : Int} : R2D K (rI0 fun i j => .bl (decide (i ≤ j))) (.int i) (.int j) (.bl (decide (i ≤ j))) := r2_bl
theorem c_gt {i j : Int} : R2D K (rI0 fun i j => .bl (decide (j < i))) (.int i) (.int j) (.bl (decide (j < i))) := r2_bl
theorem c_ge {i j : Int} : R2D K (rI0 fun i j => .bl (decide (j ≤ i))) (.int i) (.int j) (.bl (decide (j ≤ i))) := r2_bl
theorem c_eq {i j : Int} : R2D K rEq (.int i) (.int j) (.bl (decide (i = j))) := fun F G H σ es x y s rx ry Q q => by
  cases rx
  cases ry
  refine ⟨rfl, q _ G H s (Same.refl _) ?_⟩
  rw [dec_congr ⟨fun q : V.int i = V.int j => V.int.inj q, fun q => congrArg _ q⟩]
  exact .bl _

/-! ### subscripts, fields -/
def atC {α : Type} (xs : List α) (i : Int) : Option α := atI xs i
theorem atI_map {α β : Type} (f : α → β) (xs : List α) (i : Int) : atI (xs.map f) i = (atI xs i).map f := by
  unfold atI
  rw [List.length_map]
  cases ixN xs.length i with
  | none => rfl
  | some j =>
    show (xs.map f)[j]? = (xs[j]?).map f
    rw [List.getElem?_map]
theorem reps_at {G : Hp} {vs : List V} {ds : List Dt} {i : Int} {d : Dt} (r : Reps K G vs ds) (h : atI ds i = some d) : ∃ v, atI vs i = some v ∧ Rep K G v d := by
  unfold atI at h ⊢
  rw [r.length]
  cases q : ixN ds.length i with
  | none => rw [q] at h; cases h
  | some j =>
    rw [q] at h
    exact r.get h
theorem ev_ixT {ds : List Dt} {i : Int} (ha : Ev K ta es (.tup ds)) (hb : Ev K tb es (.int i)) (h : atI ds i = some d) : Ev K (tOp (rIxT K) ta tb) es d := ev_op ha hb fun F G H σ es x y s rx ry Q q => by
  cases rx with
  | tup hs r =>
    cases ry
    obtain ⟨v, hv, rv⟩ := reps_at r h
    exact ⟨_, _, i, v, rfl, rfl, sqT_mono s.g hs, hv, q v G H s (Same.refl _) rv⟩
theorem ev_ixL {ds : List Dt} {i : Int} (ha : Ev K ta es (.lst ds)) (hb : Ev K tb es (.int i)) (h : atI ds i = some d) : Ev K (tOp (rIxL K) ta tb) es d := ev_op ha hb fun F G H σ es x y s rx ry Q q => by
  cases rx with
  | lst hs r =>
    cases ry
    obtain ⟨v, hv, rv⟩ := reps_at r h
    exact ⟨_, _, i, v, rfl, rfl, s.g.seq hs, hv, q v G H s (Same.refl _) rv⟩
/-- at an index that is not written -/
theorem ev_ixTC {α : Type} {em : α → Dt} {xs : List α} {i : Int} {x : α} (ha : Ev K ta es (.tup (xs.map em))) (hb : Ev K tb es (.int i)) (h : atC xs i = some x) : Ev K (tOp (rIxT K) ta tb) es (em x) :=
  ev_ixT ha hb (by rw [atI_map, show atI xs i = some x from h]; rfl)
theorem ev_ixLC {α : Type} {em : α → Dt} {xs : List α} {i : Int} {x : α} (ha : Ev K ta es (.lst (xs.map em))) (hb : Ev K tb es (.int i)) (h : atC xs i = some x) : Ev K (tOp (rIxL K) ta tb) es (em x) :=
  ev_ixL ha hb (by rw [atI_map, show atI xs i = some x from h]; rfl)
theorem ev_fld {C : Addr} {fs : List (Str × Dt)} {f : Str} (ha : Ev K ta es (.obj C fs)) (hc : Cls K C) (hn : NoAttr K C f) (hl : fs.lookup f = some d) : Ev K (tFld K ta f) es d := fun F G H σ s Q q =>
  ha F G H σ s _ fun x G1 H1 s1 g1 r1 => by
    cases r1 with
    | obj h r =>
      obtain ⟨v, hv, rv⟩ := r.lookup hl
      exact ⟨_, C, _, _, v, rfl, s1.g _ _ h, hc, hn, hv, q v G1 H1 s1 g1 rv⟩
/-- a field of the object one makes -/
theorem ev_fldO {C : Addr} {fs : List (Str × Dt)} {f : Str} {i : Nat} {p : Option Addr} (h : es[i]? = some (.obo p C fs)) (hc : Cls K C) (hn : NoAttr K C f) (hl : fs.lookup f = some d) : Ev K (tFld K (tVar i) f) es d := fun F G H σ s Q q => by
  obtain ⟨o, ho, p, dx, vs, e, g, f, hp, r, _⟩ := s.sl i _ h
  subst e
  obtain ⟨v, hv, rv⟩ := r.lookup hl
  exact ⟨.ref p, ho, p, C, dx, vs, v, rfl, hp, hc, hn, hv, q v G H s (Same.refl _) rv⟩
/-- an item of the list one fills -/
theorem ev_ixO {ds : List Dt} {i : Int} {j : Nat} {p : Option Addr} (h : es[j]? = some (.own p ds)) (hb : Ev K tb es (.int i)) (ha : atI ds i = some d) : Ev K (tOp (rIxL K) (tVar j) tb) es d := fun F G H σ s Q q => by
  obtain ⟨o, ho, _⟩ := s.sl j _ h
  have ho' := ho
  obtain ⟨o2, ho2, p2, vs2, e2, _⟩ := s.sl j _ h
  subst e2
  refine ⟨.ref p2, ho2, hb F G H σ s _ fun y G1 H1 s1 g1 r1 => ?_⟩
  cases r1
  obtain ⟨o, ho, p, vs, e, g, f, hp, r, _⟩ := s1.sl j _ h
  subst e
  rw [ho2] at ho
  cases ho
  obtain ⟨v, hv, rv⟩ := reps_at r ha
  exact ⟨_, vs, i, v, rfl, rfl, .inl (.inl hp), hv, q v G1 H1 s1 g1 rv⟩
theorem ev_ixOC {α : Type} {em : α → Dt} {xs : List α} {i : Int} {j : Nat} {p : Option Addr} {x : α} (h : es[j]? = some (.own p (xs.map em))) (hb : Ev K tb es (.int i)) (ha : atC xs i = some x) : Ev K (tOp (rIxL K) (tVar j) tb) es (em x) :=
  ev_ixO h hb (by rw [atI_map, show atI xs i = some x from ha]; rfl)
end
end DL

namespace DL
open PySem L2

/-! ### statements -/
inductive Res where
  | nx (es : List Sl) | go (es : List Sl) | bk (es : List Sl) | rt (d : Dt) (es : List Sl) | rl (ds : List Dt) (es : List Sl)
  /-- for some address -/
  | ex (o : Addr → Res)
  /-- what is handed back is one's own -/
  | rs (t : Sl) (es : List Sl)
  /-- an exception -/
  | xr (W : L2.St → XK) (c : Addr) (es : List Sl)
def Good (K : PySem.W.Frag) (F G : Hp) (D : Ends) : Res → Prop
  | .nx es => ∀ G' H' σ', Stt K F G' H' σ' es → Same G G' → D.nx σ' H'
  | .go es => (∀ G' H' σ', Stt K F G' H' σ' es → Same G G' → D.nx σ' H') ∧ ∀ G' H' σ', Stt K F G' H' σ' es → Same G G' → D.ct σ' H'
  | .bk es => ∀ G' H' σ', Stt K F G' H' σ' es → Same G G' → D.bk σ' H'
  | .rt d es => ∀ v G' H' σ', Stt K F G' H' σ' es → Same G G' → Rep K G' v d → D.rt v H'
  | .rl ds es => ∀ p vs G' H' σ', Stt K (upd F p (.lst vs)) G' H' σ' es → F p = none → Same G G' → Reps K G' vs ds → D.rt (.ref p) H'
  | .ex o => ∀ a, Good K F G D (o a)
  | .rs t es => ∀ v G' H' σ', Stt K F G' H' (some v :: σ') (t :: es) → Same G G' → D.rt v H'
  | .xr W c es => ∀ G' H' σ', Stt K F G' H' σ' es → Same G G' → W σ' (.ref c) none H'
theorem Good.up {K : PySem.W.Frag} {F G G1 : Hp} {D : Ends} {o : Res} (h : Good K F G D o) (g : Same G G1) : Good K F G1 D o := by
  induction o with
  | nx es => exact fun G' H' σ' s e => h G' H' σ' s (g.trans e)
  | go es => exact ⟨fun G' H' σ' s e => h.1 G' H' σ' s (g.trans e), fun G' H' σ' s e => h.2 G' H' σ' s (g.trans e)⟩
  | bk es => exact fun G' H' σ' s e => h G' H' σ' s (g.trans e)
  | rt d es => exact fun v G' H' σ' s e r => h v G' H' σ' s (g.trans e) r
  | rl ds es => exact fun p vs G' H' σ' s f e r => h p vs G' H' σ' s f (g.trans e) r
  | ex o ih => exact fun a => ih a (h a)
  | rs t es => exact fun v G' H' σ' s e => h v G' H' σ' s (g.trans e)
  | xr W c es => exact fun G' H' σ' s e => h G' H' σ' s (g.trans e)
def SEv (K : PySem.W.Frag) (t : TS) (es : List Sl) (o : Res) : Prop := ∀ F G H σ D, Stt K F G H σ es → Good K F G D o → t D σ H
def SM {ρ : Type} (K : PySem.W.Frag) (t : TS) (es : List Sl) (m : Option ρ) (oc : ρ → Res) : Prop := ∀ r, m = some r → SEv K t es (oc r)
/-- a target -/
def EvG (K : PySem.W.Frag) (g : TG) (vs : List Nat) (es : List Sl) (d : Dt) (es' : List Sl) : Prop := ∀ F G H σ v, Stt K F G H σ es → Rep K G v d → ∀ Q : L2.St → Hp → Prop,
  (∀ σ' G' H', Stt K F G' H' σ' es' → Same G G' → σ'.length = σ.length → (∀ k, k ∉ vs → σ'[k]? = σ[k]?) → Q σ' H') → g v σ H Q
/-- a let -/
def lt {α β : Type} (e : α) (f : α → β) : β := f e

section
variable {K : PySem.W.Frag} {es fs : List Sl} {ρ : Type} {t u tz : TS} {m : Option ρ} {oc : ρ → Res} {te : TE} {d : Dt} {c : TT}
theorem sm_some {r : ρ} (h : SEv K t es (oc r)) : SM K t es (some r) oc := fun r' e => by
  cases e
  exact h
theorem sm_none : SM K t es none oc := fun r' e => by cases e
theorem sm_bind {α : Type} {m1 : Option α} {f : α → Option ρ} (h : ∀ x, m1 = some x → SM K t es (f x) oc) : SM K t es (m1.bind f) oc := fun r e => by
  cases q : m1 with
  | none => rw [q] at e; cases e
  | some x =>
    rw [q] at e
    exact h x q r e
theorem sm_lt {α : Type} {e : α} {f : α → Option ρ} (h : ∀ x, e = x → SM K t es (f x) oc) : SM K t es (lt e f) oc := h e rfl
theorem sm_one (h : SM K (tSeq t tNext) es m oc) : SM K t es m oc := h
theorem sm_as {v : TS} (h : SM K (tSeq t (tSeq u v)) es m oc) : SM K (tSeq (tSeq t u) v) es m oc := h
theorem sm_nil (h : SM K tz es m oc) : SM K (tSeq tNext tz) es m oc := h
theorem sm_wk {gs : List Sl} (w : Wk es gs) (h : SM K t gs m oc) : SM K t es m oc := fun r e F G H σ D s q => h r e F G H σ D (s.wk w) q
theorem sev_nx (w : Wk es fs) : SEv K tNext es (.nx fs) := fun F G H σ D s q => q G H σ (s.wk w) (Same.refl _)
theorem sev_go (w : Wk es fs) : SEv K tNext es (.go fs) := fun F G H σ D s q => q.1 G H σ (s.wk w) (Same.refl _)
theorem sev_ct (w : Wk es fs) : SEv K (tSeq tCont tz) es (.go fs) := fun F G H σ D s q => q.2 G H σ (s.wk w) (Same.refl _)
theorem sev_bk (w : Wk es fs) : SEv K (tSeq tBreak tz) es (.bk fs) := fun F G H σ D s q => q G H σ (s.wk w) (Same.refl _)
theorem sev_rt (h : Ev K te es d) (w : Wk es fs) : SEv K (tSeq (tRet te) tz) es (.rt d fs) := fun F G H σ D s q => h F G H σ s _ fun v G1 H1 s1 g1 r1 => q v G1 H1 σ (s1.wk w) g1 r1
theorem sev_rtN (w : Wk es fs) : SEv K (tSeq tRetN tz) es (.rt .non fs) := fun F G H σ D s q => q .non G H σ (s.wk w) (Same.refl _) .non
theorem sm_asg {i : Nat} (h : Ev K te es d) (k : SM K tz (es.set i (.d d)) m oc) : SM K (tSeq (tAsg te (gName i)) tz) es m oc := fun r e F G H σ D s q =>
  h F G H σ s _ fun v G1 H1 s1 g1 r1 => k r e F G1 H1 _ D (s1.set r1) (q.up g1)
theorem sm_drop (h : Ev K te es d) (k : SM K tz es m oc) : SM K (tSeq (tDrop te) tz) es m oc := fun r e F G H σ D s q =>
  h F G H σ s _ fun v G1 H1 s1 g1 r1 => k r e F G1 H1 _ D s1 (q.up g1)
theorem sm_asgG {g : TG} {vs : List Nat} {es' : List Sl} (h : Ev K te es d) (hg : EvG K g vs es d es') (k : SM K tz es' m oc) : SM K (tSeq (tAsg te g) tz) es m oc := fun r e F G H σ D s q =>
  h F G H σ s _ fun v G1 H1 s1 g1 r1 => hg F G1 H1 σ v s1 r1 _ fun σ' G2 H2 s2 g2 _ _ => k r e F G2 H2 σ' D s2 (q.up (g1.trans g2))
theorem sm_par {i j : Nat} {ta : TA} {d1 d2 : Dt} (h : EvA K ta es [d1, d2]) (k : SM K tz ((es.set i (.d d1)).set j (.d d2)) m oc) : SM K (tSeq (tPar i j ta) tz) es m oc := fun r e F G H σ D s q =>
  h F G H σ s _ fun vs G1 H1 s1 g1 r1 => by
    cases r1 with
    | cons ra rr =>
      cases rr with
      | cons rb rn =>
        cases rn
        exact ⟨_, _, rfl, k r e F G1 H1 _ D ((s1.set ra).set rb) (q.up g1)⟩
theorem sm_if {b : Bool} {p q : Option ρ} (h : EvT K c es b) (h1 : b = true → SM K (tSeq t tz) es p oc) (h2 : b = false → SM K (tSeq u tz) es q oc) : SM K (tSeq (tIfS c t u) tz) es (if b = true then p else q) oc := fun r e F G H σ D s k =>
  h F G H σ s _ fun G1 H1 s1 g1 => by
    cases b with
    | true =>
      show t _ σ H1
      exact h1 rfl r e F G1 H1 σ D s1 (k.up g1)
    | false =>
      show u _ σ H1
      exact h2 rfl r e F G1 H1 σ D s1 (k.up g1)
theorem sm_seq {S : Type} {ms : Option S} {env : S → List Sl} {k : S → Option ρ} (h : SM K t es ms fun s => .nx (env s)) (h2 : ∀ s, ms = some s → SM K u (env s) (k s) oc) : SM K (tSeq t u) es (ms.bind k) oc := fun r e F G H σ D s q => by
  cases hm : ms with
  | none => rw [hm] at e; cases e
  | some x =>
    rw [hm] at e
    exact h x hm F G H σ _ s fun G' H' σ' s' g => h2 x hm r e F G' H' σ' D s' (q.up g)

/-! ### targets -/
theorem eg_name {i : Nat} {vs : List Nat} (hv : i ∈ vs) : EvG K (gName i) vs es d (es.set i (.d d)) := fun F G H σ v s r Q q =>
  q _ G H (s.set r) (Same.refl _) (by rw [List.length_set]) fun k hk => by rw [List.getElem?_set_ne fun e => hk (by rw [← e]; exact hv)]
/-- targets one after another -/
def EvGs (K : PySem.W.Frag) (g : TGs) (vs : List Nat) (es : List Sl) (ds : List Dt) (es' : List Sl) : Prop := ∀ F G H σ xs, Stt K F G H σ es → Reps K G xs ds → ∀ Q : L2.St → Hp → Prop,
  (∀ σ' G' H', Stt K F G' H' σ' es' → Same G G' → σ'.length = σ.length → (∀ k, k ∉ vs → σ'[k]? = σ[k]?) → Q σ' H') → g xs σ H Q
theorem egs_nil {vs : List Nat} : EvGs K gNil vs es [] es := fun F G H σ xs s r Q q => by
  cases r
  exact ⟨rfl, q σ G H s (Same.refl _) rfl fun _ _ => rfl⟩
theorem egs_cons {g : TG} {gr : TGs} {vs : List Nat} {ds : List Dt} {es1 es2 : List Sl} (h : EvG K g vs es d es1) (hr : EvGs K gr vs es1 ds es2) : EvGs K (gCons g gr) vs es (d :: ds) es2 := fun F G H σ xs s r Q q => by
  cases r with
  | cons rv rr =>
    exact ⟨_, _, rfl, h F G H σ _ s rv _ fun σ1 G1 H1 s1 g1 l1 k1 => hr F G1 H1 σ1 _ s1 (rr.mono g1) Q fun σ2 G2 H2 s2 g2 l2 k2 => q σ2 G2 H2 s2 (g1.trans g2) (l2.trans l1) fun k hk => (k2 k hk).trans (k1 k hk)⟩
theorem eg_tup {n : Nat} {g : TGs} {vs : List Nat} {ds : List Dt} {es' : List Sl} (h : EvGs K g vs es ds es') (hn : ds.length = n) : EvG K (gTup K n g) vs es (.tup ds) es' := fun F G H σ v s r Q q => by
  cases r with
  | tup hs rr =>
    exact ⟨_, _, rfl, sqT_mono s.g hs, by rw [rr.length]; exact hn, h F G H σ _ s rr Q q⟩
end

/-! ### what is walked -/
def Yields (K : PySem.W.Frag) (J : It) (G : Hp) (ds : List Dt) : Prop := ∀ i F G1 H1 σ es, Same G G1 → Stt K F G1 H1 σ es →
  (∀ d, ds[i]? = some d → J.go i H1 ∧ ∀ x H2, J.yld i H1 x H2 → ∃ G2, Stt K F G2 H2 σ es ∧ Same G1 G2 ∧ Rep K G2 x d) ∧ (ds.length ≤ i → J.stop i H1)
def EvI (K : PySem.W.Frag) (wi : TI) (es : List Sl) (ds : List Dt) : Prop := ∀ F G H σ, Stt K F G H σ es → ∀ R : It → Hp → Prop, (∀ J G' H', Stt K F G' H' σ es → Same G G' → Yields K J G' ds → R J H') → wi σ H R
section
variable {K : PySem.W.Frag} {es : List Sl} {te : TE}
theorem ei_list {ds : List Dt} (h : Ev K te es (.lst ds)) : EvI K (iList K te) es ds := fun F G H σ s R q => h F G H σ s _ fun v G1 H1 s1 g1 r1 => by
  cases r1 with
  | lst hs r =>
    refine ⟨_, rfl, ⟨_, s1.g.seq hs⟩, q _ G1 H1 s1 g1 fun i F2 G2 H2 σ2 es2 g2 s2 => ⟨fun d e => ?_, fun e => ⟨_, s2.g.seq (g2.seq hs), by rw [r.length]; exact e⟩⟩⟩
    obtain ⟨v, hv, rv⟩ := r.get e
    refine ⟨⟨_, v, s2.g.seq (g2.seq hs), hv⟩, fun x H3 y => ?_⟩
    obtain ⟨e1, y2⟩ := y
    subst e1
    have := (y2 _ (s2.g.seq (g2.seq hs))).symm.trans hv
    cases this
    exact ⟨G2, s2, Same.refl _, rv.mono g2⟩
theorem ei_tup {ds : List Dt} (h : Ev K te es (.tup ds)) : EvI K (iTup K te) es ds := fun F G H σ s R q => h F G H σ s _ fun v G1 H1 s1 g1 r1 => by
  cases r1 with
  | tup hs r =>
    refine ⟨_, rfl, ⟨_, sqT_mono s1.g hs⟩, q _ G1 H1 s1 g1 fun i F2 G2 H2 σ2 es2 g2 s2 => ⟨fun d e => ?_, fun e => ⟨_, sqT_mono s2.g (sqT_mono g2 hs), by rw [r.length]; exact e⟩⟩⟩
    obtain ⟨v, hv, rv⟩ := r.get e
    refine ⟨⟨_, v, sqT_mono s2.g (sqT_mono g2 hs), hv⟩, fun x H3 y => ?_⟩
    obtain ⟨e1, y2⟩ := y
    subst e1
    have := (y2 _ (sqT_mono s2.g (sqT_mono g2 hs))).symm.trans hv
    cases this
    exact ⟨G2, s2, Same.refl _, rv.mono g2⟩
/-- lo, .. below hi -/
def rng (lo hi : Int) : List Int := (List.range (hi - lo).toNat).map fun (i : Nat) => lo + (i : Int)
def rngC (lo hi : Int) : Option (List Int) := if -(2 ^ 62) ≤ lo ∧ lo < 2 ^ 62 ∧ -(2 ^ 62) ≤ hi ∧ hi < 2 ^ 62 then some (rng lo hi) else none
theorem yields_rng {G : Hp} {lo : Int} {n : Nat} : Yields K (Itr lo n) G (((List.range n).map fun (i : Nat) => lo + (i : Int)).map Dt.int) := fun i F G1 H1 σ es g s => by
  refine ⟨fun d e => ?_, fun e => by rw [List.length_map, List.length_map, List.length_range] at e; exact e⟩
  rw [List.getElem?_map, List.getElem?_map] at e
  by_cases hi : i < n
  · rw [List.getElem?_range hi] at e
    cases e
    refine ⟨hi, fun x H2 y => ?_⟩
    obtain ⟨e1, e2⟩ := y
    subst e1 e2
    exact ⟨G1, s, Same.refl _, .int _⟩
  · rw [List.getElem?_eq_none (by simpa using hi)] at e
    cases e
theorem ei_rng1 {ta : TA} {hi : Int} {xs : List Int} (h : EvA K ta es [.int hi]) (e : rngC 0 hi = some xs) : EvI K (iRng1 ta) es (xs.map Dt.int) := fun F G H σ s R q => h F G H σ s _ fun vs G1 H1 s1 g1 r1 => by
  obtain ⟨⟨_, _, h1, h2⟩, e⟩ := ite_some e
  subst e
  cases r1 with
  | cons ra rr =>
    cases ra
    cases rr
    refine ⟨hi, rfl, h1, h2, q _ G1 H1 s1 g1 ?_⟩
    unfold rng
    rw [Int.sub_zero]
    exact yields_rng
theorem ei_rng2 {ta : TA} {lo hi : Int} {xs : List Int} (h : EvA K ta es [.int lo, .int hi]) (e : rngC lo hi = some xs) : EvI K (iRng2 ta) es (xs.map Dt.int) := fun F G H σ s R q => h F G H σ s _ fun vs G1 H1 s1 g1 r1 => by
  obtain ⟨hh, e⟩ := ite_some e
  subst e
  cases r1 with
  | cons ra rr =>
    cases ra
    cases rr with
    | cons rb rr =>
      cases rb
      cases rr
      exact ⟨lo, hi, rfl, hh, q _ G1 H1 s1 g1 yields_rng⟩
end

/-! ### loops -/
inductive Fl (S R : Type) where
  | nx (s : S) | bk (s : S) | rt (r : R)
def Fl.step {S R : Type} (k : S → Option (Fl S R)) : Fl S R → Option (Fl S R)
  | .nx s => k s
  | .bk s => some (.bk s)
  | .rt r => some (.rt r)
def Fl.thn {S R ρ : Type} (k : S → Option ρ) (e : R → ρ) : Fl S R → Option ρ
  | .nx s => k s
  | .bk s => k s
  | .rt r => some (e r)
def forF {α S R : Type} : List α → S → (α → S → Option (Fl S R)) → Option (Fl S R)
  | [], s, _ => some (.nx s)
  | x :: xs, s, f => (f x s).bind (Fl.step fun s' => forF xs s' f)
def forL {α S : Type} : List α → S → (α → S → Option S) → Option S
  | [], s, _ => some s
  | x :: xs, s, f => (f x s).bind fun s' => forL xs s' f
def bodyRes {S R : Type} (env : S → List Sl) (ed : R → Dt) (ee : R → List Sl) : Fl S R → Res
  | .nx s => .go (env s) | .bk s => .bk (env s) | .rt r => .rt (ed r) (ee r)
def loopRes {S R : Type} (env : S → List Sl) (ed : R → Dt) (ee : R → List Sl) : Fl S R → Res
  | .nx s => .nx (env s) | .bk s => .nx (env s) | .rt r => .rt (ed r) (ee r)
/-- behind a loop that may have returned -/
def thenF {S R ρ : Type} (m : Option (Fl S R)) (k : S → Option ρ) (e : R → ρ) : Option ρ := m.bind (Fl.thn k e)
section
variable {K : PySem.W.Frag} {es : List Sl} {α S R ρ : Type} {t u tb : TS} {oc : ρ → Res}
theorem sm_for {xs : List α} {em : α → Dt} {wi : TI} {g : TG} {vs : List Nat} {env : S → List Sl} {en2 : α → S → List Sl} {ed : R → Dt} {ee : R → List Sl} {s0 : S} {f : α → S → Option (Fl S R)}
    (hi : EvI K wi es (xs.map em)) (w : Wk es (env s0)) (hg : ∀ x s, EvG K g vs (env s) (em x) (en2 x s)) (hb : ∀ x s, x ∈ xs → SM K tb (en2 x s) (f x s) (bodyRes env ed ee)) :
    SM K (tFor wi g tb) es (forF xs s0 f) (loopRes env ed ee) := fun r e F G H σ D st q => by
  refine hi F G H σ st _ fun J G1 H1 s1 g1 y => ?_
  refine ⟨fun i m σ' H' => ∃ G' s, Stt K F G' H' σ' (env s) ∧ Same G1 G' ∧ m = xs.length - i ∧ i ≤ xs.length ∧ forF (xs.drop i) s f = some r, ⟨_, G1, s0, s1.wk w, Same.refl _, rfl, Nat.zero_le _, e⟩, ?_⟩
  rintro i m σ' H' ⟨G', s, st', g', rfl, hle, e'⟩
  by_cases hlt : i < xs.length
  · refine .inr ?_
    have hd : xs.drop i = xs[i] :: xs.drop (i + 1) := List.drop_eq_getElem_cons hlt
    rw [hd] at e'
    have hmem : xs[i] ∈ xs := List.getElem_mem hlt
    cases hf : f xs[i] s with
    | none =>
      have : forF (xs[i] :: xs.drop (i + 1)) s f = none := by
        show (f xs[i] s).bind _ = none
        rw [hf]
        rfl
      rw [this] at e'
      cases e'
    | some o =>
      obtain ⟨go, yld⟩ := (y i F G' H' σ' (env s) g' st').1 (em xs[i]) (by rw [List.getElem?_map, List.getElem?_eq_getElem hlt]; rfl)
      refine ⟨go, fun σ2 H2 => ∃ G2 s2, Stt K F G2 H2 σ2 (env s2) ∧ Same G1 G2 ∧ forF (xs.drop (i + 1)) s2 f = some r, fun σ2 H2 ⟨G2, s2, a1, a2, a3⟩ => ⟨xs.length - (i + 1), by omega, G2, s2, a1, a2, rfl, by omega, a3⟩, fun x H2 hy => ?_⟩
      obtain ⟨G2, st2, g2, rx⟩ := yld x H2 hy
      refine hg xs[i] s F G2 H2 σ' x st2 rx _ fun σ3 G3 H3 st3 g3 _ _ => ?_
      refine hb xs[i] s hmem o hf F G3 H3 σ3 _ st3 ?_
      have e2 : Fl.step (fun s' => forF (xs.drop (i + 1)) s' f) o = some r := by
        have : forF (xs[i] :: xs.drop (i + 1)) s f = Fl.step (fun s' => forF (xs.drop (i + 1)) s' f) o := by
          show (f xs[i] s).bind _ = _
          rw [hf]
          rfl
        rw [← this]
        exact e'
      have gg := g1.trans (g'.trans (g2.trans g3))
      cases o with
      | nx s' => exact ⟨fun G4 H4 σ4 st4 g4 => ⟨G4, s', st4, g'.trans (g2.trans (g3.trans g4)), e2⟩, fun G4 H4 σ4 st4 g4 => ⟨G4, s', st4, g'.trans (g2.trans (g3.trans g4)), e2⟩⟩
      | bk s' =>
        cases e2
        exact q.up gg
      | rt r' =>
        cases e2
        exact q.up gg
  · have e3 : i = xs.length := by omega
    subst e3
    refine .inl ⟨(y xs.length F G' H' σ' (env s) g' st').2 (by simp), ?_⟩
    rw [List.drop_length] at e'
    cases e'
    exact q G' H' σ' st' (g1.trans g')
theorem forF_forL {f : α → S → Option S} : ∀ {xs : List α} {s0 : S}, forF (R := Empty) xs s0 (fun x s => (f x s).bind fun s' => some (.nx s')) = (forL xs s0 f).bind fun s => some (.nx s)
  | [], s0 => rfl
  | x :: xs, s0 => by
    show ((f x s0).bind fun s' => some (Fl.nx s')).bind _ = ((f x s0).bind _).bind _
    cases f x s0 with
    | none => rfl
    | some s' => exact forF_forL (f := f) (xs := xs) (s0 := s')
/-- a loop that is left at its end alone -/
theorem sm_forL {xs : List α} {em : α → Dt} {wi : TI} {g : TG} {vs : List Nat} {env : S → List Sl} {en2 : α → S → List Sl} {s0 : S} {f : α → S → Option S}
    (hi : EvI K wi es (xs.map em)) (w : Wk es (env s0)) (hg : ∀ x s, EvG K g vs (env s) (em x) (en2 x s)) (hb : ∀ x s, x ∈ xs → SM K tb (en2 x s) (f x s) fun s' => .go (env s')) :
    SM K (tFor wi g tb) es (forL xs s0 f) fun s => .nx (env s) := fun r e => by
  have h := sm_for (R := Empty) (ed := fun _ => .non) (ee := fun _ => []) (f := fun x s => (f x s).bind fun s' => some (.nx s')) hi w hg fun x s hx => sm_bind fun s' hs => sm_some (hb x s hx s' hs)
  refine h (Fl.nx r) ?_
  rw [forF_forL (f := f), e]
  rfl
theorem sm_thenF {m : Option (Fl S R)} {k : S → Option ρ} {er : R → ρ} {env : S → List Sl} {ed : R → Dt} {ee : R → List Sl} (h : SM K t es m (loopRes env ed ee)) (h2 : ∀ s, SM K u (env s) (k s) oc) (h3 : ∀ r, oc (er r) = .rt (ed r) (ee r)) :
    SM K (tSeq t u) es (thenF m k er) oc := fun r e F G H σ D st q => by
  unfold thenF at e
  cases hm : m with
  | none => rw [hm] at e; cases e
  | some o =>
    rw [hm] at e
    refine h o hm F G H σ _ st ?_
    cases o with
    | nx s => exact fun G' H' σ' s' g => h2 s r e F G' H' σ' D s' (q.up g)
    | bk s => exact fun G' H' σ' s' g => h2 s r e F G' H' σ' D s' (q.up g)
    | rt x =>
      cases e
      have q' : Good K F G D (.rt (ed x) (ee x)) := (h3 x) ▸ q
      exact q'

/-! while -/
def whileF {S R : Type} : Nat → S → (S → Option Bool) → (S → Option (Fl S R)) → Option (Fl S R)
  | 0, _, _, _ => none
  | n + 1, s, c, f => (c s).bind fun b => if b = true then (f s).bind (Fl.step fun s' => whileF n s' c f) else some (.nx s)
theorem sm_while {c : TT} {n : Nat} {env : S → List Sl} {ed : R → Dt} {ee : R → List Sl} {s0 : S} {cf : S → Option Bool} {f : S → Option (Fl S R)} (w : Wk es (env s0))
    (hc : ∀ s b, cf s = some b → EvT K c (env s) b) (hb : ∀ s, SM K tb (env s) (f s) (bodyRes env ed ee)) : SM K (tWhile c tb) es (whileF n s0 cf f) (loopRes env ed ee) := fun r e F G H σ D st q => by
  refine ⟨fun m σ' H' => ∃ G' s, Stt K F G' H' σ' (env s) ∧ Same G G' ∧ whileF m s cf f = some r, ⟨n, G, s0, st.wk w, Same.refl _, e⟩, ?_⟩
  rintro m σ' H' ⟨G', s, st', g', e'⟩
  cases m with
  | zero => cases e'
  | succ m =>
    cases hq : cf s with
    | none =>
      have : whileF (m + 1) s cf f = none := by
        show (cf s).bind _ = none
        rw [hq]
        rfl
      rw [this] at e'
      cases e'
    | some b =>
      have e2 : (if b = true then (f s).bind (Fl.step fun s' => whileF m s' cf f) else some (.nx s)) = some r := by
        rw [← e']
        show _ = (cf s).bind _
        rw [hq]
        rfl
      refine hc s b hq F G' H' σ' st' _ fun G1 H1 s1 g1 => ?_
      cases b with
      | false =>
        cases e2
        exact q G1 H1 σ' s1 (g'.trans g1)
      | true =>
        have e3 : ((f s).bind (Fl.step fun s' => whileF m s' cf f)) = some r := e2
        cases hf : f s with
        | none => rw [hf] at e3; cases e3
        | some o =>
          rw [hf] at e3
          refine ⟨fun σ2 H2 => ∃ G2 s2, Stt K F G2 H2 σ2 (env s2) ∧ Same G G2 ∧ whileF m s2 cf f = some r, fun σ2 H2 ⟨G2, s2, a1, a2, a3⟩ => ⟨m, Nat.lt_succ_self m, G2, s2, a1, a2, a3⟩, ?_⟩
          refine hb s o hf F G1 H1 σ' _ s1 ?_
          have gg := g'.trans g1
          cases o with
          | nx s' => exact ⟨fun G4 H4 σ4 st4 g4 => ⟨G4, s', st4, gg.trans g4, e3⟩, fun G4 H4 σ4 st4 g4 => ⟨G4, s', st4, gg.trans g4, e3⟩⟩
          | bk s' =>
            cases e3
            exact q.up gg
          | rt r' =>
            cases e3
            exact q.up gg
end

/-! ### new lists -/
def EvL (K : PySem.W.Frag) (te : TE) (es : List Sl) (ds : List Dt) : Prop := ∀ F G H σ, Stt K F G H σ es → ∀ Q : VK, (∀ p vs G' H', Stt K (upd F p (.lst vs)) G' H' σ es → F p = none → Same G G' → Reps K G' vs ds → Q (.ref p) H') → te σ H Q
/-! ### comprehensions -/
def consO {β : Type} : Option β → List β → List β
  | none, ys => ys
  | some y, ys => y :: ys
def compO {α β : Type} : List α → (α → Option (Option β)) → Option (List β)
  | [], _ => some []
  | x :: xs, f => (f x).bind fun o => (compO xs f).bind fun ys => some (consO o ys)
def wipeS (es : List Sl) : List Nat → List Sl
  | [] => es
  | v :: vs => (wipeS es vs).set v .un
section
variable {K : PySem.W.Frag} {F G H : Hp} {σ : L2.St} {es : List Sl} {p : Addr} {o o' : HO}
theorem upd_none {H : Hp} {p q : Addr} {o : HO} (h : upd H p o q = none) : q ≠ p ∧ H q = none := by
  by_cases e : q = p
  · subst e
    rw [upd_same] at h
    cases h
  · rw [upd_ne e] at h
    exact ⟨e, h⟩
theorem Stt.prot (s : Stt K F G H σ es) (h : H p = none) : Stt K (upd F p o) G (upd H p o) σ es where
  f := fun a u e => by
    by_cases q : a = p
    · subst q
      rw [upd_same] at e ⊢
      exact e
    · rw [upd_ne q] at e ⊢
      exact s.f a u e
  g := s.g.trans (same_upd h)
  dj := fun a u e => by
    by_cases q : a = p
    · subst q
      exact s.gnone h
    · rw [upd_ne q] at e
      exact s.dj a u e
  len := s.len
  sl := fun i t e => by
    obtain ⟨x, hx, k⟩ := s.sl i t e
    refine ⟨x, hx, k.grow (Same.refl _) (fun q u _ _ e => by rw [upd_ne (ne_of_none e h)]; exact e) fun q g ⟨u, hu⟩ f => ⟨g, ?_⟩⟩
    rw [upd_ne (ne_of_none hu h)]
    exact f
  sp := s.sp
theorem Stt.reprot (s : Stt K (upd F p o) G H σ es) : Stt K (upd F p o') G (upd H p o') σ es := by
  have gp : G p = none := s.dj p o upd_same
  refine ⟨fun a u e => ?_, fun a u e => ?_, fun a u e => ?_, s.len, fun i t e => ?_, s.sp⟩
  · by_cases q : a = p
    · subst q
      rw [upd_same] at e ⊢
      exact e
    · rw [upd_ne q] at e ⊢
      exact s.f a u (by rw [upd_ne q]; exact e)
  · rw [upd_ne fun q => by subst q; rw [gp] at e; cases e]
    exact s.g a u e
  · by_cases q : a = p
    · subst q
      exact gp
    · rw [upd_ne q] at e
      exact s.dj a u (by rw [upd_ne q]; exact e)
  · obtain ⟨x, hx, k⟩ := s.sl i t e
    refine ⟨x, hx, k.grow (Same.refl _) (fun q u _ f e => by rw [upd_ne (upd_none f).1]; exact e) fun q g _ f => ⟨g, ?_⟩⟩
    rw [upd_ne (upd_none f).1]
    exact (upd_none f).2
theorem Stt.give (s : Stt K (upd F p o) G H σ es) (hF : F p = none) : Stt K F (upd G p o) H σ es := by
  have gp : G p = none := s.dj p o upd_same
  refine ⟨fun a u e => s.f a u (by rw [upd_ne (ne_of_none e hF)]; exact e), fun a u e => ?_, fun a u e => ?_, s.len, fun i t e => ?_, s.sp⟩
  · by_cases q : a = p
    · subst q
      exact s.f a u (by rw [upd_same] at e ⊢; exact e)
    · rw [upd_ne q] at e
      exact s.g a u e
  · have ne := ne_of_none e hF
    rw [upd_ne ne]
    exact s.dj a u (by rw [upd_ne ne]; exact e)
  · obtain ⟨x, hx, k⟩ := s.sl i t e
    refine ⟨x, hx, k.grow (same_upd gp) (fun q u _ _ e => e) fun q g _ f => ⟨?_, (upd_none f).2⟩⟩
    rw [upd_ne (upd_none f).1]
    exact g
theorem wipe_get : ∀ {vs : List Nat} {σ : L2.St} {k : Nat}, k ∉ vs → (wipe σ vs)[k]? = σ[k]?
  | [], _, _, _ => rfl
  | v :: vs, σ, k, h => by
    unfold wipe
    rw [List.getElem?_set_ne fun e => h (by rw [e]; exact List.mem_cons_self)]
    exact wipe_get fun e => h (List.mem_cons_of_mem _ e)
theorem wipe_in : ∀ {vs : List Nat} {σ : L2.St} {k : Nat}, k ∈ vs → k < σ.length → (wipe σ vs)[k]? = some none
  | v :: vs, σ, k, h, hl => by
    unfold wipe
    by_cases e : v = k
    · subst e
      exact List.getElem?_set_self (by rw [wipe_length]; exact hl)
    · rw [List.getElem?_set_ne e]
      rcases List.mem_cons.mp h with z | z
      · exact absurd z.symm e
      · exact wipe_in z hl
theorem wipe_ext {vs : List Nat} {σ' : L2.St} (hl : σ'.length = σ.length) (h : ∀ k, k ∉ vs → σ'[k]? = σ[k]?) : wipe σ' vs = wipe σ vs := by
  refine List.ext_getElem? fun k => ?_
  by_cases hk : k ∈ vs
  · by_cases hlt : k < σ.length
    · rw [wipe_in hk hlt, wipe_in hk (by rw [hl]; exact hlt)]
    · rw [List.getElem?_eq_none (by rw [wipe_length]; omega), List.getElem?_eq_none (by rw [wipe_length]; omega)]
  · rw [wipe_get hk, wipe_get hk, h k hk]
theorem wipeS_len : ∀ {vs : List Nat} {es : List Sl}, (wipeS es vs).length = es.length
  | [], _ => rfl
  | v :: vs, es => by
    unfold wipeS
    rw [List.length_set, wipeS_len]
theorem wipeS_get : ∀ {vs : List Nat} {es : List Sl} {k : Nat} {s : Sl}, (wipeS es vs)[k]? = some s → s = .un ∨ (k ∉ vs ∧ es[k]? = some s)
  | [], _, _, _, h => .inr ⟨by simp, h⟩
  | v :: vs, es, k, s, h => by
    unfold wipeS at h
    by_cases e : v = k
    · subst e
      have hj : v < (wipeS es vs).length := by
        have := (List.getElem?_eq_some_iff.mp h).1
        rwa [List.length_set] at this
      rw [List.getElem?_set_self hj] at h
      cases h
      exact .inl rfl
    · rw [List.getElem?_set_ne e] at h
      rcases wipeS_get h with z | ⟨z1, z2⟩
      · exact .inl z
      · refine .inr ⟨fun q => ?_, z2⟩
        rcases List.mem_cons.mp q with q | q
        · exact e q.symm
        · exact z1 q
theorem Stt.wipe (s : Stt K F G H σ es) (vs : List Nat) : Stt K F G H (L2.wipe σ vs) (wipeS es vs) where
  f := s.f
  g := s.g
  dj := s.dj
  len := by rw [wipe_length, wipeS_len]; exact s.len
  sl := fun i t e => by
    rcases wipeS_get e with z | ⟨z1, z2⟩
    · subst z
      have hi : i < (L2.wipe σ vs).length := by
        have := (List.getElem?_eq_some_iff.mp e).1
        rwa [wipeS_len, ← s.len, ← wipe_length σ vs] at this
      exact ⟨_, List.getElem?_eq_getElem hi, trivial⟩
    · rw [wipe_get z1]
      exact s.sl i t z2
  sp := sp_of s.sp fun j t x a ej hj h => by
    rcases wipeS_get ej with z | ⟨z1, z2⟩
    · subst z; exact h.elim
    · rw [wipe_get z1] at hj
      exact ⟨t, x, z2, hj, h⟩
end
section
variable {K : PySem.W.Frag} {es : List Sl} {α β : Type}
theorem compO_len {f : α → Option (Option β)} : ∀ {xs : List α} {ys : List β}, compO xs f = some ys → ys.length ≤ xs.length
  | [], ys, h => by cases h; exact Nat.le_refl _
  | x :: xs, ys, h => by
    unfold compO at h
    cases hx : f x with
    | none => rw [hx] at h; cases h
    | some o =>
      rw [hx] at h
      cases hr : compO xs f with
      | none => rw [hr] at h; cases h
      | some zs =>
        rw [hr] at h
        have ih := compO_len hr
        cases o with
        | none => cases h; exact Nat.le_succ_of_le ih
        | some y => cases h; exact Nat.succ_le_succ ih
/-- behind a block: the frame's slots, all of them data -/
theorem Stt.swap {F G1 H1 G2 H2 : Hp} {σ σ2 : L2.St} {es2 : List Sl} (s : Stt K F G1 H1 σ es) (hd : es.all (fun t => !t.isOwn) = true) (s2 : Stt K F G2 H2 σ2 es2) (g : Same G1 G2) : Stt K F G2 H2 σ es where
  f := s2.f
  g := s2.g
  dj := s2.dj
  len := s.len
  sl := fun i t e => by
    obtain ⟨x, hx, k⟩ := s.sl i t e
    refine ⟨x, hx, ?_⟩
    have := List.all_eq_true.mp hd t (List.mem_of_getElem? e)
    cases t with
    | un => trivial
    | d x =>
      obtain ⟨v, e, r⟩ := k
      exact ⟨v, e, r.mono g⟩
    | own _ _ => cases this
    | obo _ _ _ => cases this
    | prv _ => cases this
  sp := s.sp
/-- [e for x in xs if ..]: the list's own place is kept aside while the items are made -/
theorem el_comp {wi : TI} {g : TG} {tt : TT} {te : TE} {vs : List Nat} {xs : List α} {em : α → Dt} {em2 : β → Dt} {f : α → Option (Option β)} {ys : List β} {en2 : α → List Sl}
    (hi : EvI K wi es (xs.map em)) (hz : xs.length ≤ 1000000) (hg : ∀ x, EvG K g vs (wipeS es vs) (em x) (en2 x))
    (hb : ∀ x o, x ∈ xs → f x = some o → EvT K tt (en2 x) o.isSome ∧ ∀ y, o = some y → Ev K te (en2 x) (em2 y)) (hd : es.all (fun t => !t.isOwn) = true) (h : compO xs f = some ys) : EvL K (tLc wi g tt te vs) es (ys.map em2) := fun F G H σ st Q q => by
  refine hi F G H σ st _ fun J G1 H1 s1 g1 y => fun Dl hD => ?_
  have hF : F Dl = none := s1.fnone hD
  have sz : (1000000 : Nat) < sizeLine := by decide
  refine ⟨fun i m H' => ∃ (G' : Hp) (acc : List V) (zs rest : List β), Stt K (upd F Dl (.lst acc)) G' H' σ es ∧ Same G1 G' ∧ Reps K G' acc (zs.map em2) ∧ zs.length ≤ i ∧ compO (xs.drop i) f = some rest ∧ zs ++ rest = ys ∧ m = xs.length - i ∧ i ≤ xs.length,
    ⟨_, G1, [], [], ys, s1.prot hD, Same.refl _, .nil, Nat.zero_le _, h, rfl, rfl, Nat.zero_le _⟩, ?_⟩
  rintro i m H' ⟨G', acc, zs, rest, st', g', racc, hzl, hc, hap, rfl, hle⟩
  by_cases hlt : i < xs.length
  · refine .inr ?_
    have hdr : xs.drop i = xs[i] :: xs.drop (i + 1) := List.drop_eq_getElem_cons hlt
    have hmem : xs[i] ∈ xs := List.getElem_mem hlt
    rw [hdr] at hc
    cases hf : f xs[i] with
    | none =>
      have : compO (xs[i] :: xs.drop (i + 1)) f = none := by
        show (f xs[i]).bind _ = none
        rw [hf]
        rfl
      rw [this] at hc
      cases hc
    | some o =>
      cases hr : compO (xs.drop (i + 1)) f with
      | none =>
        have : compO (xs[i] :: xs.drop (i + 1)) f = none := by
          show (f xs[i]).bind _ = none
          rw [hf]
          show (compO (xs.drop (i + 1)) f).bind _ = none
          rw [hr]
          rfl
        rw [this] at hc
        cases hc
      | some rest' =>
        have hc' : rest = consO o rest' := by
          have : compO (xs[i] :: xs.drop (i + 1)) f = some (consO o rest') := by
            show (f xs[i]).bind _ = _
            rw [hf]
            show (compO (xs.drop (i + 1)) f).bind _ = _
            rw [hr]
            rfl
          rw [this] at hc
          exact (Option.some.inj hc).symm
        obtain ⟨go, yld⟩ := (y i _ G' H' σ es g' st').1 (em xs[i]) (by rw [List.getElem?_map, List.getElem?_eq_getElem hlt]; rfl)
        refine ⟨go, fun H2 => ∃ (G2 : Hp) (acc2 : List V) (zs2 rest2 : List β), Stt K (upd F Dl (.lst acc2)) G2 H2 σ es ∧ Same G1 G2 ∧ Reps K G2 acc2 (zs2.map em2) ∧ zs2.length ≤ i + 1 ∧ compO (xs.drop (i + 1)) f = some rest2 ∧ zs2 ++ rest2 = ys,
          fun H2 ⟨G2, acc2, zs2, rest2, a1, a2, a3, a4, a5, a6⟩ => ⟨xs.length - (i + 1), by omega, G2, acc2, zs2, rest2, a1, a2, a3, a4, a5, a6, rfl, by omega⟩, fun x H2 hy => ?_⟩
        obtain ⟨G2, st2, g2, rx⟩ := yld x H2 hy
        obtain ⟨htt, hte⟩ := hb xs[i] o hmem hf
        -- the block: its slots are wiped; the frame comes back by Stt.frame
        refine hg xs[i] (upd F Dl (.lst acc)) G2 H2 (L2.wipe σ vs) x (st2.wipe vs) rx _ fun σ3 G3 H3 st3 g3 l3 k3 => ?_
        refine ⟨by rw [wipe_ext (σ := L2.wipe σ vs) l3 k3]; exact wipe_ext (wipe_length _ _) fun k hk => wipe_get hk, ?_⟩
        refine htt _ G3 H3 σ3 st3 _ fun G4 H4 st4 g4 => ?_
        have gg : Same G' G4 := g2.trans (g3.trans g4)
        cases o with
        | none => exact ⟨G4, acc, zs, rest, st2.swap hd st4 (g3.trans g4), g'.trans gg, racc.mono gg, Nat.le_succ_of_le hzl, by rw [hr, hc']; rfl, hap⟩
        | some yv =>
          show te σ3 H4 _
          refine hte yv rfl _ G4 H4 σ3 st4 _ fun v G5 H5 st5 g5 r5 => ?_
          have hzl2 : acc.length ≤ i := by
            have := racc.length
            rw [List.length_map] at this
            omega
          refine ⟨acc, st5.f Dl _ upd_same, by omega, G5, acc ++ [v], zs ++ [yv], rest', (st2.swap hd st5 (g3.trans (g4.trans g5))).reprot, g'.trans (gg.trans g5), ?_, ?_, hr, ?_⟩
          · rw [List.map_append]
            exact (racc.mono (gg.trans g5)).append (.cons r5 .nil)
          · rw [List.length_append, List.length_singleton]
            omega
          · rw [List.append_assoc]
            have : rest = yv :: rest' := hc'
            rw [this] at hap
            exact hap
  · have e3 : i = xs.length := by omega
    subst e3
    refine .inl ⟨(y xs.length _ G' H' σ es g' st').2 (by simp), ?_⟩
    rw [List.drop_length] at hc
    cases hc
    rw [List.append_nil] at hap
    subst hap
    exact q Dl acc G' H' st' hF (g1.trans g') racc
end
end DL

namespace DL
open PySem L2

/-! ### lists that one fills -/
section
variable {K : PySem.W.Frag} {F G H : Hp} {σ : L2.St} {es : List Sl} {p : Addr} {o o' : HO}
/-- an object kept aside becomes a slot's -/
theorem Stt.take {vs : List V} {ds : List Dt} {i : Nat} (s : Stt K (upd F p (.lst vs)) G H σ es) (hF : F p = none) (r : Reps K G vs ds) : Stt K F G H (σ.set i (some (.ref p))) (es.set i (.own none ds)) := by
  have gp : G p = none := s.dj p _ upd_same
  have hp : H p = some (.lst vs) := s.f p _ upd_same
  have up : ∀ {q : Addr} {u : HO}, F q = some u → upd F p (.lst vs) q = some u := fun {q u} e => by rw [upd_ne (ne_of_none e hF)]; exact e
  refine ⟨fun a u e => s.f a u (up e), s.g, fun a u e => s.dj a u (up e), by rw [List.length_set, List.length_set]; exact s.len, fun j t e => ?_, s.sp_take fun _ _ h => h⟩
  · by_cases q : i = j
    · subst q
      have hj : i < es.length := by
        have := (List.getElem?_eq_some_iff.mp e).1
        rwa [List.length_set] at this
      rw [List.getElem?_set_self hj] at e
      cases e
      exact ⟨_, List.getElem?_set_self (by rw [s.len]; exact hj), p, vs, rfl, gp, hF, hp, r, fun q e => nomatch e⟩
    · rw [List.getElem?_set_ne q] at e
      rw [List.getElem?_set_ne q]
      obtain ⟨x, hx, k⟩ := s.sl j t e
      exact ⟨x, hx, k.grow (Same.refl _) (fun q u _ _ e => e) fun q g _ f => ⟨g, (upd_none f).2⟩⟩
/-- a slot's own object is written -/
theorem Stt.write {i : Nat} {t t' : Sl} (s : Stt K F G H σ es) (e : es[i]? = some t) (ht : t.isOwn = true) (ht' : t'.isOwn = true) (hs : σ[i]? = some (some (.ref p))) (k : SlOk K F G (upd H p o) (some (.ref p)) t') (hg : G p = none) (hf : F p = none) (hh : ∀ x a, t'.has x a → t.has x a := by exact fun _ _ h => h) : Stt K F G (upd H p o) σ (es.set i t') where
  f := fun a u e => by
    rw [upd_ne (ne_of_none e hf)]
    exact s.f a u e
  g := fun a u e => by
    rw [upd_ne (ne_of_none e hg)]
    exact s.g a u e
  dj := s.dj
  len := by rw [List.length_set]; exact s.len
  sl := fun j u ej => by
    by_cases q : i = j
    · subst q
      have hj := (List.getElem?_eq_some_iff.mp ej).1
      rw [List.length_set] at hj
      rw [List.getElem?_set_self hj] at ej
      cases ej
      exact ⟨_, hs, k⟩
    · rw [List.getElem?_set_ne q] at ej
      obtain ⟨x, hx, kk⟩ := s.sl j u ej
      refine ⟨x, hx, kk.tr (Same.refl _) fun a m g f => ⟨g, f, fun w hw => ?_⟩⟩
      rw [upd_ne (s.apart q e ht hs ej hx a m)]
      exact hw
  sp := sp_setK s.sp e hh
/-- a slot's own object is data from now on -/
theorem Stt.freeze {i : Nat} {t : Sl} {u : HO} {d : Dt} (s : Stt K F G H σ es) (e : es[i]? = some t) (ht : t.isOwn = true) (hs : σ[i]? = some (some (.ref p))) (hp : H p = some u) (hg : G p = none) (hf : F p = none) (r : Rep K (upd G p u) (.ref p) d) : Stt K F (upd G p u) H σ (es.set i (.d d)) where
  f := s.f
  g := fun a w e => by
    by_cases q : a = p
    · subst q
      rw [upd_same] at e
      cases e
      exact hp
    · rw [upd_ne q] at e
      exact s.g a w e
  dj := fun a w e => by
    rw [upd_ne (ne_of_none e hf)]
    exact s.dj a w e
  len := by rw [List.length_set]; exact s.len
  sl := fun j w ej => by
    by_cases q : i = j
    · subst q
      have hj := (List.getElem?_eq_some_iff.mp ej).1
      rw [List.length_set] at hj
      rw [List.getElem?_set_self hj] at ej
      cases ej
      exact ⟨_, hs, _, rfl, r⟩
    · rw [List.getElem?_set_ne q] at ej
      obtain ⟨x, hx, kk⟩ := s.sl j w ej
      refine ⟨x, hx, kk.tr (same_upd hg) fun a m g f => ⟨?_, f, fun w hw => hw⟩⟩
      rw [upd_ne (s.apart q e ht hs ej hx a m)]
      exact g
  sp := sp_setE s.sp has_d
end
section
variable {K : PySem.W.Frag} {es es' : List Sl} {ρ : Type} {t u tz : TS} {m : Option ρ} {oc : ρ → Res} {te ta tb : TE} {d : Dt} {ds : List Dt}
theorem el_lst {t : TA} (h : EvA K t es ds) (hl : ds.length ≤ 100000) : EvL K (tLst t) es ds := fun F G H σ s Q q =>
  h F G H σ s _ fun xs G1 H1 s1 g1 r1 => ⟨by rw [r1.length]; exact Nat.le_trans hl (by decide), fun p hp => q p xs G1 _ (s1.prot hp) (s1.fnone hp) g1 r1⟩
theorem ev_new (h : EvL K te es ds) : Ev K te es (.lst ds) := fun F G H σ s Q q =>
  h F G H σ s Q fun p vs G' H' s' hF g r => q _ _ H' (s'.give hF) (g.trans (same_upd (s'.dj p _ upd_same))) (.lst (.inl (.inl upd_same)) (r.mono (same_upd (s'.dj p _ upd_same))))
theorem el_is {ds' : List Dt} (h : EvL K te es ds) (e : ds = ds') : EvL K te es ds' := e ▸ h
theorem sm_own {i : Nat} (h : EvL K te es ds) (he : es.set i (.own none ds) = es') (k : SM K tz es' m oc) : SM K (tSeq (tAsg te (gName i)) tz) es m oc := fun r e F G H σ D s q =>
  h F G H σ s _ fun p vs G1 H1 s1 hF g1 r1 => k r e F G1 H1 _ D (he ▸ s1.take hF r1) (q.up g1)
theorem sm_set {i : Nat} (h : Ev K te es d) (he : es.set i (.d d) = es') (k : SM K tz es' m oc) : SM K (tSeq (tAsg te (gName i)) tz) es m oc := sm_asg h (he ▸ k)
def appC {α : Type} (xs : List α) (x : α) : Option (List α) := if xs.length < 10000000 then some (xs ++ [x]) else none
theorem sm_app {α : Type} {em : α → Dt} {xs ys : List α} {x : α} {i : Nat} {a : Option Addr} (hi : es[i]? = some (.own a (xs.map em))) (h : Ev K te es (em x)) (hy : appC xs x = some ys) (he : es.set i (.own a (ys.map em)) = es') (k : SM K tz es' m oc) :
    SM K (tSeq (tDrop (tBM K "list" rAppend (tVar i) (tCons te tNil))) tz) es m oc := fun r e F G H σ D s q => by
  obtain ⟨hl, rfl⟩ := ite_some hy
  obtain ⟨o, ho, p, vs, eo, g, f, hp, rr, an⟩ := s.sl i _ hi
  subst eo
  refine ⟨.ref p, ho, .inl ⟨rfl, vs, .inl (.inl hp)⟩, ?_⟩
  refine h F G H σ s _ fun v G1 H1 s1 g1 r1 => ?_
  obtain ⟨o, ho', p', vs', eo, g', f', hp', rr', an'⟩ := s1.sl i _ hi
  subst eo
  rw [ho] at ho'
  cases ho'
  have hlen := rr'.length
  rw [List.length_map] at hlen
  have sz : (10000000 : Nat) < sizeLine := by decide
  refine ⟨p, vs', v, rfl, rfl, hp', by omega, ?_⟩
  refine k r e F G1 _ σ D (he ▸ s1.write hi rfl rfl ho ⟨p, vs' ++ [v], rfl, g', f', upd_same, ?_, an'⟩ g' f') (q.up g1)
  rw [List.map_append]
  exact rr'.append (.cons r1 .nil)
def setC {α : Type} (xs : List α) (i : Int) (x : α) : Option (List α) := (ixN xs.length i).map fun j => xs.set j x
theorem map_set {α β : Type} (f : α → β) : ∀ (xs : List α) (j : Nat) (x : α), (xs.set j x).map f = (xs.map f).set j (f x)
  | [], _, _ => rfl
  | _ :: _, 0, _ => rfl
  | y :: xs, j + 1, x => congrArg (f y :: ·) (map_set f xs j x)
theorem sm_setL {α : Type} {em : α → Dt} {xs ys : List α} {x : α} {i : Nat} {n : Int} {a : Option Addr} (hi : es[i]? = some (.own a (xs.map em))) (h : Ev K te es (em x)) (hn : Ev K tb es (.int n)) (hy : setC xs n x = some ys) (he : es.set i (.own a (ys.map em)) = es') (k : SM K tz es' m oc) :
    SM K (tSeq (tAsg te (gSub (tVar i) tb rSetL)) tz) es m oc := fun r e F G H σ D s q => by
  refine h F G H σ s _ fun v G1 H1 s1 g1 r1 => ?_
  obtain ⟨o, ho, p, vs, eo, g, f, hp, rr, an⟩ := s1.sl i _ hi
  subst eo
  refine ⟨.ref p, ho, ?_⟩
  refine hn F G1 H1 σ s1 _ fun y G2 H2 s2 g2 r2 => ?_
  cases r2
  obtain ⟨o, ho', p', vs', eo, g', f', hp', rr', an'⟩ := s2.sl i _ hi
  subst eo
  rw [ho] at ho'
  cases ho'
  have hlen := rr'.length
  rw [List.length_map] at hlen
  unfold setC at hy
  cases hj : ixN xs.length n with
  | none => rw [hj] at hy; cases hy
  | some j =>
    rw [hj] at hy
    have hy' : xs.set j x = ys := Option.some.inj hy
    subst hy'
    refine ⟨p, vs', n, j, rfl, rfl, hp', by rw [hlen]; exact hj, ?_⟩
    refine k r e F G2 _ σ D (he ▸ s2.write hi rfl rfl ho ⟨p, vs'.set j v, rfl, g', f', upd_same, ?_, an'⟩ g' f') (q.up (g1.trans g2))
    rw [map_set]
    exact Reps.set (r1.mono g2) j rr'
def insC {α : Type} (xs : List α) (i : Int) (x : α) : Option (List α) := if xs.length < 10000000 ∧ 0 ≤ i ∧ i < 2 ^ 62 then some (xs.take i.toNat ++ [x] ++ xs.drop i.toNat) else none
def rInsert : V → List V → Hp → VK → Prop := fun x vs H Q => ∃ (l : Addr) (xs : List V) (i : Int) (y : V), x = .ref l ∧ vs = [.int i, y] ∧ H l = some (.lst xs) ∧ xs.length < sizeLine ∧ 0 ≤ i ∧ i < 2 ^ 63 ∧
    Q .non (upd H l (.lst (xs.take i.toNat ++ [y] ++ xs.drop i.toNat)))
theorem mt_ins {X : Cx} : MtR X "list.insert" rInsert := mt_insert
theorem sm_ins {α : Type} {em : α → Dt} {xs ys : List α} {x : α} {i : Nat} {n : Int} {a : Option Addr} (hi : es[i]? = some (.own a (xs.map em))) (hn : Ev K tb es (.int n)) (h : Ev K te es (em x)) (hy : insC xs n x = some ys) (he : es.set i (.own a (ys.map em)) = es') (k : SM K tz es' m oc) :
    SM K (tSeq (tDrop (tBM K "list" rInsert (tVar i) (tCons tb (tCons te tNil)))) tz) es m oc := fun r e F G H σ D s q => by
  obtain ⟨⟨hl, h0, h1⟩, rfl⟩ := ite_some hy
  obtain ⟨o, ho, p, vs, eo, g, f, hp, rr, an⟩ := s.sl i _ hi
  subst eo
  refine ⟨.ref p, ho, .inl ⟨rfl, vs, .inl (.inl hp)⟩, ?_⟩
  refine hn F G H σ s _ fun y G1 H1 s1 g1 r1 => ?_
  cases r1
  refine h F G1 H1 σ s1 _ fun v G2 H2 s2 g2 r2 => ?_
  obtain ⟨o, ho', p', vs', eo, g', f', hp', rr', an'⟩ := s2.sl i _ hi
  subst eo
  rw [ho] at ho'
  cases ho'
  have hlen := rr'.length
  rw [List.length_map] at hlen
  have sz : (10000000 : Nat) < sizeLine := by decide
  refine ⟨p, vs', n, v, rfl, rfl, hp', by omega, h0, by omega, ?_⟩
  refine k r e F G2 _ σ D (he ▸ s2.write hi rfl rfl ho ⟨p, vs'.take n.toNat ++ [v] ++ vs'.drop n.toNat, rfl, g', f', upd_same, ?_, an'⟩ g' f') (q.up (g1.trans g2))
  rw [List.map_append, List.map_append, List.map_take, List.map_drop]
  exact ((rr'.take _).append (.cons r2 .nil)).append (rr'.drop _)
/-- the list is done -/
theorem sm_frz {i : Nat} {a : Option Addr} (hi : es[i]? = some (.own a ds)) (he : es.set i (.d (.lst ds)) = es') (k : SM K t es' m oc) : SM K t es m oc := fun r e F G H σ D s q => by
  obtain ⟨o, ho, p, vs, eo, g, f, hp, rr, an⟩ := s.sl i _ hi
  subst eo
  exact k r e F _ H σ D (he ▸ s.freeze hi rfl ho hp g f (.lst (.inl (.inl upd_same)) (rr.mono (same_upd g)))) (q.up (same_upd g))
theorem sm_frzO {i : Nat} {a : Option Addr} {C : Addr} {fs : List (Str × Dt)} (hi : es[i]? = some (.obo a C fs)) (he : es.set i (.d (.obj C fs)) = es') (k : SM K t es' m oc) : SM K t es m oc := fun r e F G H σ D s q => by
  obtain ⟨o, ho, p, dx, vs, eo, g, f, hp, rr, an⟩ := s.sl i _ hi
  subst eo
  exact k r e F _ H σ D (he ▸ s.freeze hi rfl ho hp g f (.obj upd_same (rr.mono (same_upd g)))) (q.up (same_upd g))
theorem repF_put {G : Hp} {f : Str} {v : V} {d : Dt} (h : Rep K G v d) : ∀ {vs : List (Str × V)} {ds : List (Str × Dt)}, RepF K G vs ds → RepF K G (putF f v vs) (putD f d ds)
  | _, _, .nil => .cons h .nil
  | _, _, .cons (f := g) r rr => by
    unfold putF putD
    by_cases e : g = f
    · rw [if_pos e, if_pos e]
      exact .cons h rr
    · rw [if_neg e, if_neg e]
      exact .cons r (repF_put h rr)
theorem RepF.length {G : Hp} : ∀ {vs : List (Str × V)} {ds : List (Str × Dt)}, RepF K G vs ds → vs.length = ds.length
  | _, _, .nil => rfl
  | _, _, .cons _ r => congrArg (· + 1) (RepF.length r)
/-- self.f = e -/
theorem sm_fld {i : Nat} {a : Option Addr} {C : Addr} {fs : List (Str × Dt)} {f : Str} (hi : es[i]? = some (.obo a C fs)) (h : Ev K te es d) (hc : Cls K C) (hn : NoAttr K C f) (hl : fs.length < 900) (he : es.set i (.obo a C (putD f d fs)) = es') (k : SM K tz es' m oc) :
    SM K (tSeq (sFld K (tVar i) te f) tz) es m oc := fun r e F G H σ D s q => by
  refine h F G H σ s _ fun v G1 H1 s1 g1 r1 => ?_
  obtain ⟨o, ho, p, dx, vs, eo, g, ff, hp, rr, an⟩ := s1.sl i _ hi
  subst eo
  refine ⟨.ref p, ho, p, C, dx, vs, rfl, hp, hc, hn, by rw [rr.length]; omega, ?_⟩
  exact k r e F G1 _ σ D (he ▸ s1.write hi rfl rfl ho ⟨p, dx, putF f v vs, rfl, g, ff, upd_same, repF_put r1 rr, an⟩ g ff) (q.up g1)
end

/-! ### defs: what they promise -/
/-- R: the slots of the arguments, what is handed back, the slots behind -/
def FSpec (K : PySem.W.Frag) (R : List Sl → Dt → List Sl → Prop) : Sp := fun vs H Q _ => ∃ F G ss d ss', Stt K F G H (vs.map some) ss ∧ R ss d ss' ∧
  ∀ v G' H', Stt K F G' H' (vs.map some) ss' → Same G G' → Rep K G' v d → Q v H'
/-- all arguments are data -/
def RD (P : List Dt → Dt → Prop) : List Sl → Dt → List Sl → Prop := fun ss d ss' => ∃ ds, ss = ds.map .d ∧ ss' = ss ∧ P ds d
/-- an __init__: the first is made -/
def RI (C : Addr) (P : List Dt → List (Str × Dt) → Prop) : List Sl → Dt → List Sl → Prop := fun ss d ss' => ∃ p ds fs, ss = .obo (some p) C [] :: ds.map .d ∧ d = .non ∧ ss' = .obo (some p) C fs :: ds.map .d ∧ P ds fs
section
variable {K : PySem.W.Frag} {F G H F' G' H' : Hp} {σ : L2.St} {es : List Sl}
theorem stt_data {vs : List V} {ds : List Dt} (f : Same F H) (g : Same G H) (dj : ∀ a o, F a = some o → G a = none) (r : Reps K G vs ds) : Stt K F G H (vs.map some) (ds.map .d) where
  f := f
  g := g
  dj := dj
  len := by rw [List.length_map, List.length_map]; exact r.length
  sl := fun i s e => by
    rw [List.getElem?_map] at e
    cases q : ds[i]? with
    | none => rw [q] at e; cases e
    | some d =>
      rw [q] at e
      cases e
      obtain ⟨v, hv, rv⟩ := r.get q
      exact ⟨some v, by rw [List.getElem?_map, hv]; rfl, v, rfl, rv⟩
  sp := sp_data
theorem data_of {vs : List V} {ds : List Dt} : ∀ {vs : List V} {ds : List Dt}, (vs.map some).length = (ds.map Sl.d).length → (∀ (i : Nat) s, (ds.map Sl.d)[i]? = some s → ∃ o, (vs.map some)[i]? = some o ∧ SlOk K F G H o s) → Reps K G vs ds
  | [], [], _, _ => .nil
  | v :: vs, d :: ds, h, hh => by
    obtain ⟨o, ho, x, e, r⟩ := hh 0 _ rfl
    cases ho
    cases e
    exact .cons r (data_of (vs := vs) (ds := ds) (by simpa using h) fun i s e => hh (i + 1) s e)
  | [], _ :: _, h, _ => by simp at h
  | _ :: _, [], h, _ => by simp at h
theorem Stt.rem (s : Stt K F G H σ es) : Same (rem G H) H ∧ ∀ a o, DL.rem G H a = some o → G a = none := ⟨fun a o e => (rem_some e).1, fun a o e => (rem_some e).2⟩
variable {ta : TA} {ds dds : List Dt} {d : Dt} {E : XK} {dvs : List V}
/-- f(..), all arguments data, dvs the defaults -/
theorem ev_callD {P : List Dt → Dt → Prop} (ha : EvA K ta es ds) (hd : ∀ G, Reps K G dvs dds) (hP : P (ds ++ dds) d) : Ev K (tCall (FSpec K (RD P)) dvs E ta) es d := fun F G H σ s Q q =>
  ha F G H σ s _ fun vs G1 H1 s1 g1 r1 => ⟨rem G1 H1, G1, (ds ++ dds).map .d, d, (ds ++ dds).map .d, stt_data s1.rem.1 s1.g s1.rem.2 (r1.append (hd G1)), ⟨_, rfl, rfl, hP⟩, fun v G2 H2 s2 g2 r2 =>
    q v G2 H2 (s1.after s2.f s2.g s2.dj g2) (g1.trans g2) r2⟩
theorem ev_call {P : List Dt → Dt → Prop} (ha : EvA K ta es ds) (hP : P ds d) : Ev K (tCall (FSpec K (RD P)) [] E ta) es d := ev_callD (dds := []) ha (fun _ => .nil) (by rw [List.append_nil]; exact hP)
/-- o.m(..) -/
theorem ev_methD {P : List Dt → Dt → Prop} {to : TE} {C : Addr} {fs : List (Str × Dt)} {m : Str} (ho : Ev K to es (.obj C fs)) (hm : fs.lookup m = none) (ha : EvA K ta es ds) (hd : ∀ G, Reps K G dvs dds) (hP : P (.obj C fs :: (ds ++ dds)) d) : Ev K (tMeth C m (FSpec K (RD P)) dvs E to ta) es d := fun F G H σ s Q q =>
  ho F G H σ s _ fun x G0 H0 s0 g0 r0 => by
    have r0' := r0
    cases r0 with
    | obj h rf =>
      refine ⟨_, _, _, rfl, s0.g _ _ h, rf.lookup_none hm, ?_⟩
      exact ha F G0 H0 σ s0 _ fun vs G1 H1 s1 g1 r1 => ⟨rem G1 H1, G1, (Dt.obj C fs :: (ds ++ dds)).map .d, d, (Dt.obj C fs :: (ds ++ dds)).map .d, stt_data s1.rem.1 s1.g s1.rem.2 (.cons (r0'.mono g1) (r1.append (hd G1))), ⟨_, rfl, rfl, hP⟩, fun v G2 H2 s2 g2 r2 =>
        q v G2 H2 (s1.after s2.f s2.g s2.dj g2) (g0.trans (g1.trans g2)) r2⟩
theorem ev_meth {P : List Dt → Dt → Prop} {to : TE} {C : Addr} {fs : List (Str × Dt)} {m : Str} (ho : Ev K to es (.obj C fs)) (hm : fs.lookup m = none) (ha : EvA K ta es ds) (hP : P (.obj C fs :: ds) d) : Ev K (tMeth C m (FSpec K (RD P)) [] E to ta) es d :=
  ev_methD (dds := []) ho hm ha (fun _ => .nil) (by rw [List.append_nil]; exact hP)
/-- C(..) -/
theorem ev_makeD {P : List Dt → List (Str × Dt) → Prop} {C : Addr} {fs : List (Str × Dt)} (ha : EvA K ta es ds) (hd : ∀ G, Reps K G dvs dds) (hP : P (ds ++ dds) fs) : Ev K (tMake C (FSpec K (RI C P)) dvs E ta) es (.obj C fs) := fun F G H σ s Q q =>
  ha F G H σ s _ fun vs G1 H1 s1 g1 r1 x dx hx hdx ne => by
    have hx1 : upd H1 dx (.own x) x = none := by
      rw [upd_ne (fun z => ne z.symm)]
      exact hx
    have s2 : Stt K F G1 (upd (upd H1 dx (.own x)) x (.ins C dx [])) σ es := (s1.lay hdx).lay hx1
    have gx : G1 x = none := s1.gnone hx
    have rx : ∀ a o, a ≠ x → rem G1 (upd (upd H1 dx (.own x)) x (.ins C dx [])) a = some o → rem G1 (upd (upd H1 dx (.own x)) x (.ins C dx [])) a = some o := fun _ _ _ e => e
    -- what is another's: all but the known and the new one
    refine ⟨fun a => if a = x then none else rem G1 (upd (upd H1 dx (.own x)) x (.ins C dx [])) a, G1, .obo (some x) C [] :: (ds ++ dds).map .d, .non, .obo (some x) C fs :: (ds ++ dds).map .d, ?_, ⟨x, _, fs, rfl, rfl, rfl, hP⟩, ?_⟩
    · have base : Stt K (fun a => if a = x then none else rem G1 (upd (upd H1 dx (.own x)) x (.ins C dx [])) a) G1 (upd (upd H1 dx (.own x)) x (.ins C dx [])) ((vs ++ dvs).map some) ((ds ++ dds).map .d) := by
        refine stt_data (fun a o e => ?_) s2.g (fun a o e => ?_) (r1.append (hd G1))
        · by_cases q : a = x
          · rw [if_pos q] at e; cases e
          · rw [if_neg q] at e; exact (rem_some e).1
        · by_cases q : a = x
          · rw [if_pos q] at e; cases e
          · rw [if_neg q] at e; exact (rem_some e).2
      refine ⟨base.f, base.g, base.dj, by rw [List.map_cons, List.length_cons, List.length_cons, base.len], fun i t e => ?_, sp_one⟩
      · cases i with
        | zero =>
          cases e
          exact ⟨_, rfl, x, dx, [], rfl, gx, if_pos rfl, upd_same, .nil, fun q e => (Option.some.inj e).symm⟩
        | succ i => exact base.sl i t e
    · intro v G2 H2 s3 g3 r3
      cases r3
      obtain ⟨o, ho, p, dx', fv, eo, gp, fp, hp, rf, an⟩ := s3.sl 0 _ rfl
      cases ho
      cases eo
      refine ⟨rfl, ?_⟩
      have gx2 : Same G2 (upd G2 x (.ins C dx' fv)) := same_upd gp
      have s4 : Stt K F (upd G2 x (.ins C dx' fv)) H2 σ es := by
        have keep : ∀ a o, H1 a = some o → G1 a = none → H2 a = some o ∧ G2 a = none := fun a o e g => by
          have ax : a ≠ x := fun z => by subst z; rw [hx] at e; cases e
          have adx : a ≠ dx := fun z => by subst z; rw [hdx] at e; cases e
          have fa : (if a = x then none else rem G1 (upd (upd H1 dx (.own x)) x (.ins C dx [])) a) = some o := by
            rw [if_neg ax, rem_of g, upd_ne ax, upd_ne adx]
            exact e
          exact ⟨s3.f a o fa, s3.dj a o fa⟩
        have nex : ∀ a o, H1 a = some o → a ≠ x := fun a o e z => by subst z; rw [hx] at e; cases e
        refine s1.after (H' := H2) (G' := upd G2 x (.ins C dx' fv)) (fun a o e => (keep a o (rem_some e).1 (rem_some e).2).1) (fun a o e => ?_) (fun a o e => ?_) (g3.trans gx2)
        · by_cases q : a = x
          · subst q
            rw [upd_same] at e
            cases e
            exact hp
          · rw [upd_ne q] at e
            exact s3.g a o e
        · rw [upd_ne (nex a o (rem_some e).1)]
          exact (keep a o (rem_some e).1 (rem_some e).2).2
      exact q _ _ H2 s4 (g1.trans (g3.trans gx2)) (.obj upd_same (rf.mono gx2))
theorem ev_make {P : List Dt → List (Str × Dt) → Prop} {C : Addr} {fs : List (Str × Dt)} (ha : EvA K ta es ds) (hP : P ds fs) : Ev K (tMake C (FSpec K (RI C P)) [] E ta) es (.obj C fs) := ev_makeD (dds := []) ha (fun _ => .nil) (by rw [List.append_nil]; exact hP)
end

/-! ### a def by its body -/
section
variable {P : Program} {w : World} {K : PySem.W.Frag} {mg : Str → Option Value} {base : Heap}
theorem stt_start {F G H : Hp} {vs : List V} {ss : List Sl} {N : List Str} {n : Nat} (s : Stt K F G H (vs.map some) ss) (hn : n = N.length - ss.length) : Stt K F G H (L2.start N vs) (ss ++ List.replicate n .un) where
  f := s.f
  g := s.g
  dj := s.dj
  len := by
    have := s.len
    rw [List.length_map] at this
    unfold L2.start
    rw [List.length_append, List.length_append, List.length_map, List.length_replicate, List.length_replicate, this, hn]
  sl := fun i t e => by
    have hl := s.len
    rw [List.length_map] at hl
    unfold L2.start
    by_cases hi : i < ss.length
    · rw [List.getElem?_append_left hi] at e
      rw [List.getElem?_append_left (by rw [List.length_map, hl]; exact hi)]
      exact s.sl i t e
    · rw [List.getElem?_append_right (by omega)] at e
      have hx := (List.getElem?_eq_some_iff.mp e).1
      rw [List.length_replicate] at hx
      rw [List.getElem?_replicate, if_pos hx] at e
      cases e
      rw [List.getElem?_append_right (by rw [List.length_map]; omega), List.getElem?_replicate, List.length_map, if_pos (by omega)]
      exact ⟨none, rfl, trivial⟩
  sp := sp_of s.sp fun j t x a ej hj h => by
    have hl := s.len
    rw [List.length_map] at hl
    by_cases hk : j < ss.length
    · rw [List.getElem?_append_left hk] at ej
      unfold L2.start at hj
      rw [List.getElem?_append_left (by rw [List.length_map, hl]; exact hk)] at hj
      exact ⟨t, x, ej, hj, h⟩
    · rw [List.getElem?_append_right (by omega), List.getElem?_replicate] at ej
      split at ej
      · cases ej; exact h.elim
      · cases ej
/-- what a body comes to: a value handed back, or its end -/
def Ends2 (d : Dt) (es : List Sl) (o : Res) : Prop := o = .rt d es ∨ (o = .nx es ∧ d = .non)
theorem good_end {F G : Hp} {d : Dt} {es : List Sl} {o : Res} {Q : VK} (h : Ends2 d es o) (q : ∀ v G' H' σ', Stt K F G' H' σ' es → Same G G' → Rep K G' v d → Q v H') : Good K F G { nx := fun _ H' => Q .non H', rt := Q } o := by
  rcases h with rfl | ⟨rfl, rfl⟩
  · exact q
  · exact fun G' H' σ' s g => q .non G' H' σ' s g .non
/-- THE RULE: a def whose arguments are all data -/
theorem fn_D {x qual : Str} {st : Stmt} {f : Addr} {fd : FuncData} {N ps : List Str} {k : Nat} {R : List Dt → Dt → Prop} (F : Fun K x qual st f fd) (S : FnScope N ps (defScope st)) (hl : ∀ ds d, R ds d → ds.length = ps.length)
    (body : ∀ (cdv : Value) (A : Around) (outer : List Env) (s : Shared) (H : Hp) (E : XK), Room k (A.deeper (PyProof.Rows.envOfC qual (defScope st) s.heap.objs.size f cdv)) →
      ∃ t, PSs (cxOf CX0 P w K mg base N qual (defScope st) f cdv A outer s H E).nox (defBody st) t ∧ ∀ ds d, R ds d → ∃ o es, SEv K t (ds.map .d ++ List.replicate (N.length - ps.length) .un) o ∧ Ends2 d es o) :
    FnOk P w K mg base CX0 (k + 1) f fd ps (FSpec K (RD R)) := by
  refine F.ok S (fun vs H Q E h => ?_) (fun cdv A outer s H vs Q E hr h => ?_)
  · obtain ⟨F, G, ss, d, ss', s, ⟨ds, rfl, _, hR⟩, _⟩ := h
    have := s.len
    rw [List.length_map, List.length_map, hl ds d hR] at this
    exact this
  · obtain ⟨t, ht, hb⟩ := body cdv A outer s H E hr
    refine ⟨t, ht, ?_⟩
    obtain ⟨F1, G, ss, d, ss', st1, ⟨ds, rfl, rfl, hR⟩, q⟩ := h
    obtain ⟨o, es, hs, he⟩ := hb ds d hR
    refine hs F1 G H _ _ (stt_start st1 (by rw [List.length_map, hl ds d hR])) (good_end he fun v G' H' σ' s' g r => ?_)
    have rs : Reps K G vs ds := data_of (vs := vs) (ds := ds) (K := K) (F := F1) (G := G) (H := H) (by have := st1.len; simpa using this) st1.sl
    exact q v G' H' (stt_data s'.f s'.g s'.dj (rs.mono g)) g r
/-- THE RULE: an __init__ -/
theorem fn_I {x qual : Str} {st : Stmt} {f : Addr} {fd : FuncData} {N ps : List Str} {k : Nat} {C : Addr} {R : List Dt → List (Str × Dt) → Prop} (F : Fun K x qual st f fd) (S : FnScope N ps (defScope st)) (hl : ∀ ds d, R ds d → ds.length + 1 = ps.length)
    (body : ∀ (cdv : Value) (A : Around) (outer : List Env) (s : Shared) (H : Hp) (E : XK), Room k (A.deeper (PyProof.Rows.envOfC qual (defScope st) s.heap.objs.size f cdv)) →
      ∃ t, PSs (cxOf CX0 P w K mg base N qual (defScope st) f cdv A outer s H E).nox (defBody st) t ∧ ∀ p ds fs, R ds fs → ∃ o es, SEv K t (.obo (some p) C [] :: ds.map .d ++ List.replicate (N.length - ps.length) .un) o ∧ Ends2 .non (.obo (some p) C fs :: es) o) :
    FnOk P w K mg base CX0 (k + 1) f fd ps (FSpec K (RI C R)) := by
  refine F.ok S (fun vs H Q E h => ?_) (fun cdv A outer s H vs Q E hr h => ?_)
  · obtain ⟨F, G, ss, d, ss', s, ⟨p, ds, fs, rfl, _, _, hR⟩, _⟩ := h
    have := s.len
    rw [List.length_map, List.length_cons, List.length_map, hl ds fs hR] at this
    exact this
  · obtain ⟨t, ht, hb⟩ := body cdv A outer s H E hr
    refine ⟨t, ht, ?_⟩
    obtain ⟨F1, G, ss, d, ss', st1, ⟨p, ds, fs, rfl, rfl, rfl, hR⟩, q⟩ := h
    obtain ⟨o, es, hs, he⟩ := hb p ds fs hR
    refine hs F1 G H _ _ (stt_start st1 (by rw [List.length_cons, List.length_map, hl ds fs hR])) (good_end he fun v G' H' σ' s' g r => ?_)
    cases vs with
    | nil =>
      have := st1.len
      simp at this
    | cons v0 vs =>
      obtain ⟨o0, ho0, p0, dx0, fv0, e0, g0, f0, h0, r0, a0⟩ := st1.sl 0 _ rfl
      cases ho0
      cases e0
      obtain rfl := a0 p rfl
      obtain ⟨o1, ho1, p1, dx1, fv1, e1, g1, f1, h1, r1, a1⟩ := s'.sl 0 _ rfl
      subst e1
      obtain rfl := a1 _ rfl
      have rs : Reps K G vs ds := data_of (vs := vs) (ds := ds) (K := K) (F := F1) (G := G) (H := H) (by have := st1.len; simpa using this) fun i t e => st1.sl (i + 1) t e
      have base := stt_data s'.f s'.g s'.dj (rs.mono g)
      refine q v G' H' ⟨base.f, base.g, base.dj, by rw [List.map_cons, List.length_cons, List.length_cons, base.len], fun i t e => ?_, sp_one⟩ g r
      · cases i with
        | zero =>
          cases e
          exact ⟨_, rfl, p, dx1, fv1, rfl, g1, f1, h1, r1, a1⟩
        | succ i => exact base.sl i t e
end
end DL

namespace DL
open PySem L2

/-! ### embeddings -/
abbrev dT1 {α : Type} (e1 : α → Dt) (x : α) : Dt := .tup [e1 x]
abbrev dT2 {α β : Type} (e1 : α → Dt) (e2 : β → Dt) (x : α × β) : Dt := .tup [e1 x.1, e2 x.2]
abbrev dT3 {α β γ : Type} (e1 : α → Dt) (e2 : β → Dt) (e3 : γ → Dt) (x : α × β × γ) : Dt := .tup [e1 x.1, e2 x.2.1, e3 x.2.2]
abbrev dT4 {α β γ δ : Type} (e1 : α → Dt) (e2 : β → Dt) (e3 : γ → Dt) (e4 : δ → Dt) (x : α × β × γ × δ) : Dt := .tup [e1 x.1, e2 x.2.1, e3 x.2.2.1, e4 x.2.2.2]
abbrev dT5 {α β γ δ ε : Type} (e1 : α → Dt) (e2 : β → Dt) (e3 : γ → Dt) (e4 : δ → Dt) (e5 : ε → Dt) (x : α × β × γ × δ × ε) : Dt := .tup [e1 x.1, e2 x.2.1, e3 x.2.2.1, e4 x.2.2.2.1, e5 x.2.2.2.2]
abbrev dL {α : Type} (e : α → Dt) (xs : List α) : Dt := .lst (xs.map e)
abbrev dV {α : Type} (e : α → Dt) (xs : List α) : Dt := .tup (xs.map e)
abbrev dN (_ : Unit) : Dt := .non
def dO {α : Type} (e : α → Dt) : Option α → Dt
  | none => .non
  | some x => e x

/-! ### built-ins -/
def rAbs : List V → Hp → VK → Prop := fun xs H Q => ∃ i, xs = [.int i] ∧ Q (.int (if i < 0 then -i else i)) H
def rMax2 : List V → Hp → VK → Prop := fun xs H Q => ∃ i j, xs = [.int i, .int j] ∧ Q (.int (if j > i then j else i)) H
def rMin2 : List V → Hp → VK → Prop := fun xs H Q => ∃ i j, xs = [.int i, .int j] ∧ Q (.int (if j < i then j else i)) H
def rInt : List V → Hp → VK → Prop := fun xs H Q => (∃ i, xs = [.int i] ∧ Q (.int i) H) ∨ ∃ k, xs = [.bl k] ∧ Q (.int (if k then 1 else 0)) H
def rLenS (K : PySem.W.Frag) : List V → Hp → VK → Prop := fun xs H Q => ∃ p ys, xs = [.ref p] ∧ (SqL K H p ys ∨ SqT K H p ys) ∧ Q (.int ys.length) H
def rListS (K : PySem.W.Frag) : List V → Hp → VK → Prop := fun xs H Q => ∃ p ys, xs = [.ref p] ∧ (SqL K H p ys ∨ SqT K H p ys) ∧ ∀ l, H l = none → Q (.ref l) (upd H l (.lst ys))
def rTupS (K : PySem.W.Frag) : List V → Hp → VK → Prop := fun xs H Q => ∃ p ys, xs = [.ref p] ∧ ((SqL K H p ys ∧ ∀ l, H l = none → Q (.ref l) (upd H l (.tup ys))) ∨ (SqT K H p ys ∧ Q (.ref p) H))
def rLenT : List V → Hp → VK → Prop := fun xs H Q => ∃ z, xs = [.str z] ∧ z.length ≤ sizeLine ∧ Q (.int z.length) H
def rIsqrt : List V → Hp → VK → Prop := fun xs H Q => ∃ i : Int, xs = [.int i] ∧ 0 ≤ i ∧ i.toNat.log2 ≤ 13000 ∧ Q (.int ((Float64.isqrt i.toNat : Nat) : Int)) H
section
variable {X : Cx}
theorem cr_abs : CallR X (.builtin "abs") rAbs := call_abs
theorem cr_max2 (hc : X.calm = true) : CallR X (.builtin "max") rMax2 := call_max2 hc
theorem cr_min2 (hc : X.calm = true) : CallR X (.builtin "min") rMin2 := call_min2 hc
theorem cr_max3 (hc : X.calm = true) : CallR X (.builtin "max") (rNuC3 nuMax3) := call_max3Nu hc
theorem cr_min3 (hc : X.calm = true) : CallR X (.builtin "min") (rNuC3 nuMin3) := call_min3Nu hc
theorem cr_int : CallR X (.type "int") rInt := call_int1
theorem cr_lenS : CallR X (.builtin "len") (rLenS X.K) := call_len_seq
theorem cr_lenT : CallR X (.builtin "len") rLenT := call_len_str
theorem cr_listS : CallR X (.type "list") (rListS X.K) := call_list_of
theorem cr_tupS : CallR X (.type "tuple") (rTupS X.K) := call_tuple_of
theorem cr_isqrt : CallR X (.builtin "math.isqrt") rIsqrt := by
  intro pins s σ H vs us Q I r h
  obtain ⟨a, rfl, h0, h1, q⟩ := h
  cases r with
  | cons r1 r2 =>
    cases r2
    obtain ⟨t, rfl⟩ := r1
    exact PySem.call_function_meets PySem.W.MGF.kind_isqrt PySem.W.MGF.plain_isqrt PySem.W.MGF.entry_isqrt (PySem.W.MGF.args_isqrt _) (PySem.W.mg_run_isqrt a t (by omega) (by omega) (by omega)).meets ⟨.int _, H, I.tok _, ⟨_, rfl⟩, q⟩
end
section
variable {K : PySem.W.Frag} {es : List Sl} {ta tb te : TE} {d : Dt}
theorem ld_1 {r : List V → Hp → VK → Prop} {a c : Dt} (ha : Ev K ta es a) (hr : ∀ F G H σ x, Stt K F G H σ es → Rep K G x a → ∀ Q : VK, (∀ v G' H', Stt K F G' H' σ es → Same G G' → Rep K G' v c → Q v H') → r [x] H Q) : Ev K (tCB r (tCons ta tNil)) es c := fun F G H σ s Q q =>
  ha F G H σ s _ fun x G1 H1 s1 g1 r1 => hr F G1 H1 σ x s1 r1 Q fun v G2 H2 s2 g2 r2 => q v G2 H2 s2 (g1.trans g2) r2
theorem ld_2 {r : List V → Hp → VK → Prop} {a b c : Dt} (ha : Ev K ta es a) (hb : Ev K tb es b) (hr : ∀ F G H σ x y, Stt K F G H σ es → Rep K G x a → Rep K G y b → ∀ Q : VK, (∀ v G' H', Stt K F G' H' σ es → Same G G' → Rep K G' v c → Q v H') → r [x, y] H Q) : Ev K (tCB r (tCons ta (tCons tb tNil))) es c := fun F G H σ s Q q =>
  ha F G H σ s _ fun x G1 H1 s1 g1 r1 => hb F G1 H1 σ s1 _ fun y G2 H2 s2 g2 r2 => hr F G2 H2 σ x y s2 (r1.mono g2) r2 Q fun v G3 H3 s3 g3 r3 => q v G3 H3 s3 (g1.trans (g2.trans g3)) r3
theorem ld_3 {r : List V → Hp → VK → Prop} {tc : TE} {a b e c : Dt} (ha : Ev K ta es a) (hb : Ev K tb es b) (he : Ev K tc es e) (hr : ∀ F G H σ x y z, Stt K F G H σ es → Rep K G x a → Rep K G y b → Rep K G z e → ∀ Q : VK, (∀ v G' H', Stt K F G' H' σ es → Same G G' → Rep K G' v c → Q v H') → r [x, y, z] H Q) : Ev K (tCB r (tCons ta (tCons tb (tCons tc tNil)))) es c := fun F G H σ s Q q =>
  ha F G H σ s _ fun x G1 H1 s1 g1 r1 => hb F G1 H1 σ s1 _ fun y G2 H2 s2 g2 r2 => he F G2 H2 σ s2 _ fun z G3 H3 s3 g3 r3 => hr F G3 H3 σ x y z s3 ((r1.mono g2).mono g3) (r2.mono g3) r3 Q fun v G4 H4 s4 g4 r4 => q v G4 H4 s4 (g1.trans (g2.trans (g3.trans g4))) r4
theorem ev_abs {i : Int} (ha : Ev K ta es (.int i)) : Ev K (tCB rAbs (tCons ta tNil)) es (.int (i.natAbs : Int)) := ld_1 ha fun F G H σ x s r Q q => by
  cases r
  refine ⟨i, rfl, ?_⟩
  have : (if i < 0 then -i else i) = (i.natAbs : Int) := by split <;> omega
  rw [this]
  exact q _ G H s (Same.refl _) (.int _)
theorem ev_max2 {i j : Int} (ha : Ev K ta es (.int i)) (hb : Ev K tb es (.int j)) : Ev K (tCB rMax2 (tCons ta (tCons tb tNil))) es (.int (max i j)) := ld_2 ha hb fun F G H σ x y s r r' Q q => by
  cases r
  cases r'
  refine ⟨i, j, rfl, ?_⟩
  have : (if j > i then j else i) = max i j := by split <;> omega
  rw [this]
  exact q _ G H s (Same.refl _) (.int _)
theorem ev_min2 {i j : Int} (ha : Ev K ta es (.int i)) (hb : Ev K tb es (.int j)) : Ev K (tCB rMin2 (tCons ta (tCons tb tNil))) es (.int (min i j)) := ld_2 ha hb fun F G H σ x y s r r' Q q => by
  cases r
  cases r'
  refine ⟨i, j, rfl, ?_⟩
  have : (if j < i then j else i) = min i j := by split <;> omega
  rw [this]
  exact q _ G H s (Same.refl _) (.int _)
theorem nu_max2 (i j : Int) : nuMax2 (.int i) (.int j) = some (.int (max i j)) := by
  show some (if decide (i < j) = true then V.int j else V.int i) = _
  by_cases h : i < j
  · rw [if_pos (decide_eq_true h)]
    congr 2
    omega
  · rw [if_neg (by rw [decide_eq_true_eq]; exact h)]
    congr 2
    omega
theorem nu_min2 (i j : Int) : nuMin2 (.int i) (.int j) = some (.int (min i j)) := by
  show some (if decide (j < i) = true then V.int j else V.int i) = _
  by_cases h : j < i
  · rw [if_pos (decide_eq_true h)]
    congr 2
    omega
  · rw [if_neg (by rw [decide_eq_true_eq]; exact h)]
    congr 2
    omega
theorem ev_max3 {tc : TE} {i j k : Int} (ha : Ev K ta es (.int i)) (hb : Ev K tb es (.int j)) (hc : Ev K tc es (.int k)) : Ev K (tCB (rNuC3 nuMax3) (tCons ta (tCons tb (tCons tc tNil)))) es (.int (max (max i j) k)) := ld_3 ha hb hc fun F G H σ x y z s r r' r'' Q q => by
  cases r
  cases r'
  cases r''
  refine ⟨_, _, _, .int (max (max i j) k), rfl, ?_, q _ G H s (Same.refl _) (.int _)⟩
  unfold nuMax3
  rw [nu_max2]
  exact nu_max2 _ _
theorem ev_min3 {tc : TE} {i j k : Int} (ha : Ev K ta es (.int i)) (hb : Ev K tb es (.int j)) (hc : Ev K tc es (.int k)) : Ev K (tCB (rNuC3 nuMin3) (tCons ta (tCons tb (tCons tc tNil)))) es (.int (min (min i j) k)) := ld_3 ha hb hc fun F G H σ x y z s r r' r'' Q q => by
  cases r
  cases r'
  cases r''
  refine ⟨_, _, _, .int (min (min i j) k), rfl, ?_, q _ G H s (Same.refl _) (.int _)⟩
  unfold nuMin3
  rw [nu_min2]
  exact nu_min2 _ _
theorem ev_intI {i : Int} (ha : Ev K ta es (.int i)) : Ev K (tCB rInt (tCons ta tNil)) es (.int i) := ld_1 ha fun F G H σ x s r Q q => by
  cases r
  exact .inl ⟨i, rfl, q _ G H s (Same.refl _) (.int _)⟩
def b2i (b : Bool) : Int := if b = true then 1 else 0
theorem ev_intB {b : Bool} (ha : Ev K ta es (.bl b)) : Ev K (tCB rInt (tCons ta tNil)) es (.int (b2i b)) := ld_1 ha fun F G H σ x s r Q q => by
  cases r
  exact .inr ⟨b, rfl, q _ G H s (Same.refl _) (.int _)⟩
theorem ev_lenL {ds : List Dt} (ha : Ev K ta es (.lst ds)) : Ev K (tCB (rLenS K) (tCons ta tNil)) es (.int (ds.length : Int)) := ld_1 ha fun F G H σ x s r Q q => by
  cases r with
  | lst h r => exact ⟨_, _, rfl, .inl (s.g.seq h), by rw [r.length]; exact q _ G H s (Same.refl _) (.int _)⟩
theorem ev_lenV {ds : List Dt} (ha : Ev K ta es (.tup ds)) : Ev K (tCB (rLenS K) (tCons ta tNil)) es (.int (ds.length : Int)) := ld_1 ha fun F G H σ x s r Q q => by
  cases r with
  | tup h r => exact ⟨_, _, rfl, .inr (sqT_mono s.g h), by rw [r.length]; exact q _ G H s (Same.refl _) (.int _)⟩
theorem ev_lenLm {α : Type} {em : α → Dt} {xs : List α} (ha : Ev K ta es (.lst (xs.map em))) : Ev K (tCB (rLenS K) (tCons ta tNil)) es (.int (xs.length : Int)) := ev_is (ev_lenL ha) (by rw [List.length_map])
theorem ev_lenVm {α : Type} {em : α → Dt} {xs : List α} (ha : Ev K ta es (.tup (xs.map em))) : Ev K (tCB (rLenS K) (tCons ta tNil)) es (.int (xs.length : Int)) := ev_is (ev_lenV ha) (by rw [List.length_map])
/-- len of the list one fills -/
theorem ev_lenO {α : Type} {em : α → Dt} {xs : List α} {i : Nat} {p : Option Addr} (h : es[i]? = some (.own p (xs.map em))) : Ev K (tCB (rLenS K) (tCons (tVar i) tNil)) es (.int (xs.length : Int)) := fun F G H σ s Q q => by
  obtain ⟨o, ho, p, vs, e, g, f, hp, r, _⟩ := s.sl i _ h
  subst e
  refine ⟨.ref p, ho, p, vs, rfl, .inl (.inl (.inl hp)), ?_⟩
  have := r.length
  rw [List.length_map] at this
  rw [this]
  exact q _ G H s (Same.refl _) (.int _)
def lenC (s : Str) : Option Int := if s.length ≤ 10000000 then some (s.length : Int) else none
theorem ev_lenS {s : Str} {n : Int} (ha : Ev K ta es (.str s)) (h : lenC s = some n) : Ev K (tCB rLenT (tCons ta tNil)) es (.int n) := ld_1 ha fun F G H σ x st r Q q => by
  obtain ⟨hl, rfl⟩ := ite_some h
  cases r
  have sz : (10000000 : Nat) < sizeLine := by decide
  exact ⟨s, rfl, by omega, q _ G H st (Same.refl _) (.int _)⟩
/-- list(x) -/
theorem el_listL {ds : List Dt} (ha : Ev K ta es (.lst ds)) : EvL K (tCB (rListS K) (tCons ta tNil)) es ds := fun F G H σ s Q q =>
  ha F G H σ s _ fun x G1 H1 s1 g1 r1 => by
    cases r1 with
    | lst h r => exact ⟨_, _, rfl, .inl (s1.g.seq h), fun l hl => q l _ G1 _ (s1.prot hl) (s1.fnone hl) g1 r⟩
theorem el_listV {ds : List Dt} (ha : Ev K ta es (.tup ds)) : EvL K (tCB (rListS K) (tCons ta tNil)) es ds := fun F G H σ s Q q =>
  ha F G H σ s _ fun x G1 H1 s1 g1 r1 => by
    cases r1 with
    | tup h r => exact ⟨_, _, rfl, .inr (sqT_mono s1.g h), fun l hl => q l _ G1 _ (s1.prot hl) (s1.fnone hl) g1 r⟩
/-- tuple(x) -/
theorem ev_tupL {ds : List Dt} (ha : Ev K ta es (.lst ds)) : Ev K (tCB (rTupS K) (tCons ta tNil)) es (.tup ds) := ld_1 ha fun F G H σ x s r Q q => by
  cases r with
  | lst h r => exact ⟨_, _, rfl, .inl ⟨s.g.seq h, fun l hl => q _ _ _ (s.new hl) (same_upd (s.gnone hl)) (.tup (.inl (.inl upd_same)) (r.mono (same_upd (s.gnone hl))))⟩⟩
theorem ev_tupV {ds : List Dt} (ha : Ev K ta es (.tup ds)) : Ev K (tCB (rTupS K) (tCons ta tNil)) es (.tup ds) := ld_1 ha fun F G H σ x s r Q q => by
  cases r with
  | tup h r => exact ⟨_, _, rfl, .inr ⟨sqT_mono s.g h, q _ G H s (Same.refl _) (.tup h r)⟩⟩
/-- tuple of the list one fills -/
theorem ev_tupO {ds : List Dt} {i : Nat} {p : Option Addr} (h : es[i]? = some (.own p ds)) : Ev K (tCB (rTupS K) (tCons (tVar i) tNil)) es (.tup ds) := fun F G H σ s Q q => by
  obtain ⟨o, ho, p, vs, e, g, f, hp, r, _⟩ := s.sl i _ h
  subst e
  exact ⟨.ref p, ho, p, vs, rfl, .inl ⟨.inl (.inl hp), fun l hl => q _ _ _ (s.new hl) (same_upd (s.gnone hl)) (.tup (.inl (.inl upd_same)) (r.mono (same_upd (s.gnone hl))))⟩⟩
def isqrtC (i : Int) : Option Int := if 0 ≤ i ∧ i.toNat.log2 ≤ 13000 then some ((Float64.isqrt i.toNat : Nat) : Int) else none
theorem ev_isqrt {i k : Int} (ha : Ev K ta es (.int i)) (h : isqrtC i = some k) : Ev K (tCB rIsqrt (tCons ta tNil)) es (.int k) := ld_1 ha fun F G H σ x s r Q q => by
  obtain ⟨⟨h0, h1⟩, rfl⟩ := ite_some h
  cases r
  exact ⟨i, rfl, h0, h1, q _ G H s (Same.refl _) (.int _)⟩
theorem ev_gcd {i j : Int} (ha : Ev K ta es (.int i)) (hb : Ev K tb es (.int j)) : Ev K (tCB rGcd (tCons ta (tCons tb tNil))) es (.int ((Nat.gcd i.natAbs j.natAbs : Nat) : Int)) := ld_2 ha hb fun F G H σ x y s r r' Q q => by
  cases r
  cases r'
  exact ⟨i, j, rfl, q _ G H s (Same.refl _) (.int _)⟩
theorem ev_bits {i : Int} (ha : Ev K ta es (.int i)) : Ev K (tBits ta) es (.int (Builtin.Int.intBits i : Nat)) := fun F G H σ s Q q => ha F G H σ s _ fun x G1 H1 s1 g1 r => by
  cases r
  exact ⟨i, rfl, q _ G1 H1 s1 g1 (.int _)⟩
theorem ints_of : ∀ {G : Hp} {vs : List V} {ns : List Int}, Reps K G vs (ns.map Dt.int) → vs = ns.map V.int
  | _, _, [], .nil => rfl
  | _, _, n :: ns, .cons h r => by
    cases h
    rw [ints_of r]
    rfl
theorem bools_of : ∀ {G : Hp} {vs : List V} {ns : List Bool}, Reps K G vs (ns.map Dt.bl) → vs = ns.map V.bl
  | _, _, [], .nil => rfl
  | _, _, n :: ns, .cons h r => by
    cases h
    rw [bools_of r]
    rfl
theorem ev_sum {ns : List Int} (ha : Ev K ta es (.lst (ns.map Dt.int))) : Ev K (tCB (rSum K) (tCons ta tNil)) es (.int ns.sum) := ld_1 ha fun F G H σ x s r Q q => by
  cases r with
  | lst h r =>
    have e := ints_of r
    subst e
    exact ⟨_, ns, rfl, s.g.seq h, q _ G H s (Same.refl _) (.int _)⟩
theorem ev_all {ns : List Bool} (ha : Ev K ta es (.lst (ns.map Dt.bl))) : Ev K (tCB (rAll K) (tCons ta tNil)) es (.bl (ns.all id)) := ld_1 ha fun F G H σ x s r Q q => by
  cases r with
  | lst h r =>
    have e := bools_of r
    subst e
    exact ⟨_, ns, rfl, s.g.seq h, q _ G H s (Same.refl _) (.bl _)⟩
theorem ev_any {ns : List Bool} (ha : Ev K ta es (.lst (ns.map Dt.bl))) : Ev K (tCB (rAny K) (tCons ta tNil)) es (.bl (ns.any id)) := ld_1 ha fun F G H σ x s r Q q => by
  cases r with
  | lst h r =>
    have e := bools_of r
    subst e
    exact ⟨_, ns, rfl, s.g.seq h, q _ G H s (Same.refl _) (.bl _)⟩
def maxL : List Int → Option Int
  | [] => none
  | x :: xs => some (xs.foldl max x)
def minL : List Int → Option Int
  | [] => none
  | x :: xs => some (xs.foldl min x)
theorem foldl_max : ∀ (xs : List Int) (x : Int), (xs.foldl max x = x ∨ xs.foldl max x ∈ xs) ∧ x ≤ xs.foldl max x ∧ ∀ y ∈ xs, y ≤ xs.foldl max x
  | [], x => ⟨.inl rfl, Int.le_refl _, fun _ h => nomatch h⟩
  | y :: xs, x => by
    obtain ⟨h1, h2, h3⟩ := foldl_max xs (max x y)
    refine ⟨?_, ?_, fun z hz => ?_⟩
    · show xs.foldl max (max x y) = x ∨ xs.foldl max (max x y) ∈ y :: xs
      rcases h1 with h1 | h1
      · rw [h1]
        by_cases h : x ≤ y
        · right
          rw [Int.max_eq_right h]
          exact List.mem_cons_self
        · left
          exact Int.max_eq_left (by omega)
      · exact .inr (List.mem_cons_of_mem _ h1)
    · show x ≤ xs.foldl max (max x y)
      omega
    · show z ≤ xs.foldl max (max x y)
      rcases List.mem_cons.mp hz with e | e
      · subst e
        omega
      · exact h3 z e
theorem foldl_min : ∀ (xs : List Int) (x : Int), (xs.foldl min x = x ∨ xs.foldl min x ∈ xs) ∧ xs.foldl min x ≤ x ∧ ∀ y ∈ xs, xs.foldl min x ≤ y
  | [], x => ⟨.inl rfl, Int.le_refl _, fun _ h => nomatch h⟩
  | y :: xs, x => by
    obtain ⟨h1, h2, h3⟩ := foldl_min xs (min x y)
    refine ⟨?_, ?_, fun z hz => ?_⟩
    · show xs.foldl min (min x y) = x ∨ xs.foldl min (min x y) ∈ y :: xs
      rcases h1 with h1 | h1
      · rw [h1]
        by_cases h : x ≤ y
        · left
          exact Int.min_eq_left h
        · right
          rw [Int.min_eq_right (by omega)]
          exact List.mem_cons_self
      · exact .inr (List.mem_cons_of_mem _ h1)
    · show xs.foldl min (min x y) ≤ x
      omega
    · show xs.foldl min (min x y) ≤ z
      rcases List.mem_cons.mp hz with e | e
      · subst e
        omega
      · exact h3 z e
theorem maxL_spec {ns : List Int} {k : Int} (h : maxL ns = some k) : k ∈ ns ∧ ∀ y ∈ ns, y ≤ k := by
  cases ns with
  | nil => cases h
  | cons x xs =>
    cases h
    obtain ⟨h1, h2, h3⟩ := foldl_max xs x
    refine ⟨?_, fun y hy => ?_⟩
    · rcases h1 with h1 | h1
      · rw [h1]
        exact List.mem_cons_self
      · exact List.mem_cons_of_mem _ h1
    · rcases List.mem_cons.mp hy with e | e
      · subst e
        exact h2
      · exact h3 y e
theorem minL_spec {ns : List Int} {k : Int} (h : minL ns = some k) : k ∈ ns ∧ ∀ y ∈ ns, k ≤ y := by
  cases ns with
  | nil => cases h
  | cons x xs =>
    cases h
    obtain ⟨h1, h2, h3⟩ := foldl_min xs x
    refine ⟨?_, fun y hy => ?_⟩
    · rcases h1 with h1 | h1
      · rw [h1]
        exact List.mem_cons_self
      · exact List.mem_cons_of_mem _ h1
    · rcases List.mem_cons.mp hy with e | e
      · subst e
        exact h2
      · exact h3 y e
theorem ev_maxL {ns : List Int} {k : Int} (ha : Ev K ta es (.lst (ns.map Dt.int))) (hk : maxL ns = some k) : Ev K (tCB (rMax K) (tCons ta tNil)) es (.int k) := ld_1 ha fun F G H σ x s r Q q => by
  cases r with
  | lst h r =>
    have e := ints_of r
    subst e
    obtain ⟨k1, k2⟩ := maxL_spec hk
    refine ⟨_, ns, rfl, s.g.seq h, List.length_pos_of_mem k1, fun m h1 h2 => ?_⟩
    have : m = k := Int.le_antisymm (k2 m h1) (h2 k k1)
    subst this
    exact q _ G H s (Same.refl _) (.int _)
theorem ev_minL {ns : List Int} {k : Int} (ha : Ev K ta es (.lst (ns.map Dt.int))) (hk : minL ns = some k) : Ev K (tCB (rMin K) (tCons ta tNil)) es (.int k) := ld_1 ha fun F G H σ x s r Q q => by
  cases r with
  | lst h r =>
    have e := ints_of r
    subst e
    obtain ⟨k1, k2⟩ := minL_spec hk
    refine ⟨_, ns, rfl, s.g.seq h, List.length_pos_of_mem k1, fun m h1 h2 => ?_⟩
    have : m = k := Int.le_antisymm (h2 k k1) (k2 m h1)
    subst this
    exact q _ G H s (Same.refl _) (.int _)
/-- the type of data, where it is a built-in one -/
def tyD : Dt → String
  | .non => "NoneType" | .bl _ => "bool" | .int _ => "int" | .str _ => "str" | .ty _ => "type" | .tup _ => "tuple" | .lst _ => "list" | .obj _ _ => "" | .dic _ _ => ""
theorem tyX_of {G H : Hp} {x : V} {d : Dt} (g : Same G H) (r : Rep K G x d) (h : tyD d ≠ "" ∧ tyD d ≠ "type") : TyX K H x (.type (tyD d)) := by
  cases r with
  | non => exact .base .non
  | bl b => exact .base (.bl b)
  | int i => exact .base (.int i)
  | str s => exact .base (.str s)
  | ty n => exact absurd rfl h.2
  | tup hs _ =>
    rcases hs with (e | ⟨o, e⟩) | ⟨o, its, n, e, c, _⟩
    · exact .base (.tup (g _ _ e))
    · exact .fTuple (g _ _ e)
    · exact .kTuple e c
  | lst hs _ =>
    rcases hs with (e | ⟨o, e⟩) | ⟨o, its, n, e, c, _⟩
    · exact .base (.lst (g _ _ e))
    · exact .base (.frz (g _ _ e))
    · exact .kList e c
  | obj h2 _ => exact absurd rfl h.1
  | dic h2 _ => exact absurd rfl h.1
theorem ev_isi {a : Dt} {n t : String} {b : Bool} (ht : tyD a = t) (h1 : t ≠ "") (h2 : t ≠ "type") (hk : kitB t n = some b) (ha : Ev K ta es a) (hb : Ev K tb es (.ty n)) : Ev K (tCB (rIsi K) (tCons ta (tCons tb tNil))) es (.bl b) := ld_2 ha hb fun F G H σ x y s r r' Q q => by
  cases r'
  subst ht
  exact ⟨x, _, _, _, b, rfl, .ty n, tyX_of s.g r ⟨h1, h2⟩, kit_ty hk, q _ G H s (Same.refl _) (.bl _)⟩
theorem ev_ty {n : String} : Ev K (tC (.ty n)) es (.ty n) := fun F G H σ s Q q => q _ G H s (Same.refl _) (.ty n)
/-- a global that stands in the written part, or a number -/
theorem ev_const {v : V} (h : ∀ G, Rep K G v d) : Ev K (tC v) es d := fun F G H σ s Q q => q v G H s (Same.refl _) (h G)
theorem ev_ixN {ds : List Dt} {i : Int} {n : Nat} (ha : Ev K ta es (.tup ds)) (hi : i = (n : Int)) (h : ds[n]? = some d) : Ev K (tOp (rIxT K) ta (tC (.int i))) es d := by
  refine ev_ixT ha ev_int ?_
  have hlt : n < ds.length := (List.getElem?_eq_some_iff.mp h).1
  unfold atI ixN
  subst hi
  rw [if_pos (by omega), if_pos (by omega)]
  exact h
theorem ev_ixLN {ds : List Dt} {i : Int} {n : Nat} (ha : Ev K ta es (.lst ds)) (hi : i = (n : Int)) (h : ds[n]? = some d) : Ev K (tOp (rIxL K) ta (tC (.int i))) es d := by
  refine ev_ixL ha ev_int ?_
  have hlt : n < ds.length := (List.getElem?_eq_some_iff.mp h).1
  unfold atI ixN
  subst hi
  rw [if_pos (by omega), if_pos (by omega)]
  exact h
end
end DL

namespace DL
open PySem L2

abbrev dT6 {α β γ δ ε ζ : Type} (e1 : α → Dt) (e2 : β → Dt) (e3 : γ → Dt) (e4 : δ → Dt) (e5 : ε → Dt) (e6 : ζ → Dt) (x : α × β × γ × δ × ε × ζ) : Dt := .tup [e1 x.1, e2 x.2.1, e3 x.2.2.1, e4 x.2.2.2.1, e5 x.2.2.2.2.1, e6 x.2.2.2.2.2]
abbrev dT7 {α β γ δ ε ζ η : Type} (e1 : α → Dt) (e2 : β → Dt) (e3 : γ → Dt) (e4 : δ → Dt) (e5 : ε → Dt) (e6 : ζ → Dt) (e7 : η → Dt) (x : α × β × γ × δ × ε × ζ × η) : Dt := .tup [e1 x.1, e2 x.2.1, e3 x.2.2.1, e4 x.2.2.2.1, e5 x.2.2.2.2.1, e6 x.2.2.2.2.2.1, e7 x.2.2.2.2.2.2]
abbrev dF1 {α : Type} (e1 : α → Dt) (x : α) : Dt := .lst [e1 x]
abbrev dF2 {α β : Type} (e1 : α → Dt) (e2 : β → Dt) (x : α × β) : Dt := .lst [e1 x.1, e2 x.2]
abbrev dF3 {α β γ : Type} (e1 : α → Dt) (e2 : β → Dt) (e3 : γ → Dt) (x : α × β × γ) : Dt := .lst [e1 x.1, e2 x.2.1, e3 x.2.2]
abbrev dF4 {α β γ δ : Type} (e1 : α → Dt) (e2 : β → Dt) (e3 : γ → Dt) (e4 : δ → Dt) (x : α × β × γ × δ) : Dt := .lst [e1 x.1, e2 x.2.1, e3 x.2.2.1, e4 x.2.2.2]
abbrev dF5 {α β γ δ ε : Type} (e1 : α → Dt) (e2 : β → Dt) (e3 : γ → Dt) (e4 : δ → Dt) (e5 : ε → Dt) (x : α × β × γ × δ × ε) : Dt := .lst [e1 x.1, e2 x.2.1, e3 x.2.2.1, e4 x.2.2.2.1, e5 x.2.2.2.2]
abbrev dF6 {α β γ δ ε ζ : Type} (e1 : α → Dt) (e2 : β → Dt) (e3 : γ → Dt) (e4 : δ → Dt) (e5 : ε → Dt) (e6 : ζ → Dt) (x : α × β × γ × δ × ε × ζ) : Dt := .lst [e1 x.1, e2 x.2.1, e3 x.2.2.1, e4 x.2.2.2.1, e5 x.2.2.2.2.1, e6 x.2.2.2.2.2]
abbrev dF7 {α β γ δ ε ζ η : Type} (e1 : α → Dt) (e2 : β → Dt) (e3 : γ → Dt) (e4 : δ → Dt) (e5 : ε → Dt) (e6 : ζ → Dt) (e7 : η → Dt) (x : α × β × γ × δ × ε × ζ × η) : Dt := .lst [e1 x.1, e2 x.2.1, e3 x.2.2.1, e4 x.2.2.2.1, e5 x.2.2.2.2.1, e6 x.2.2.2.2.2.1, e7 x.2.2.2.2.2.2]
abbrev dF8 {α β γ δ ε ζ η θ : Type} (e1 : α → Dt) (e2 : β → Dt) (e3 : γ → Dt) (e4 : δ → Dt) (e5 : ε → Dt) (e6 : ζ → Dt) (e7 : η → Dt) (e8 : θ → Dt) (x : α × β × γ × δ × ε × ζ × η × θ) : Dt := .lst [e1 x.1, e2 x.2.1, e3 x.2.2.1, e4 x.2.2.2.1, e5 x.2.2.2.2.1, e6 x.2.2.2.2.2.1, e7 x.2.2.2.2.2.2.1, e8 x.2.2.2.2.2.2.2]
abbrev dT8 {α β γ δ ε ζ η θ : Type} (e1 : α → Dt) (e2 : β → Dt) (e3 : γ → Dt) (e4 : δ → Dt) (e5 : ε → Dt) (e6 : ζ → Dt) (e7 : η → Dt) (e8 : θ → Dt) (x : α × β × γ × δ × ε × ζ × η × θ) : Dt := .tup [e1 x.1, e2 x.2.1, e3 x.2.2.1, e4 x.2.2.2.1, e5 x.2.2.2.2.1, e6 x.2.2.2.2.2.1, e7 x.2.2.2.2.2.2.1, e8 x.2.2.2.2.2.2.2]
theorem bt_len : bootBuiltins "len" = some (.builtin "len") := by decide +kernel
theorem bt_isinstance : bootBuiltins "isinstance" = some (.builtin "isinstance") := by decide +kernel
theorem bt_min : bootBuiltins "min" = some (.builtin "min") := by decide +kernel
theorem bt_max : bootBuiltins "max" = some (.builtin "max") := by decide +kernel
theorem bt_abs : bootBuiltins "abs" = some (.builtin "abs") := by decide +kernel
theorem bt_sum : bootBuiltins "sum" = some (.builtin "sum") := by decide +kernel
theorem bt_sorted : bootBuiltins "sorted" = some (.builtin "sorted") := by decide +kernel
theorem bt_all : bootBuiltins "all" = some (.builtin "all") := by decide +kernel
theorem bt_any : bootBuiltins "any" = some (.builtin "any") := by decide +kernel
theorem bt_repr : bootBuiltins "repr" = some (.builtin "repr") := by decide +kernel
theorem bt_range : bootBuiltins "range" = some (.type "range") := by decide +kernel
theorem bt_int : bootBuiltins "int" = some (.type "int") := by decide +kernel
theorem bt_tuple : bootBuiltins "tuple" = some (.type "tuple") := by decide +kernel
theorem bt_list : bootBuiltins "list" = some (.type "list") := by decide +kernel
theorem bt_str : bootBuiltins "str" = some (.type "str") := by decide +kernel
theorem bt_dict : bootBuiltins "dict" = some (.type "dict") := by decide +kernel
theorem bt_type : bootBuiltins "type" = some (.type "type") := by decide +kernel
theorem bt_enumerate : bootBuiltins "enumerate" = some (.type "enumerate") := by decide +kernel
theorem bt_bool : bootBuiltins "bool" = some (.type "bool") := by decide +kernel
theorem bt_set : bootBuiltins "set" = some (.type "set") := by decide +kernel
theorem bt_zip : bootBuiltins "zip" = some (.type "zip") := by decide +kernel
theorem bt_reversed : bootBuiltins "reversed" = some (.type "reversed") := by decide +kernel
theorem bt_map : bootBuiltins "map" = some (.type "map") := by decide +kernel
section
variable {K : PySem.W.Frag} {es : List Sl} {ρ : Type} {t u tz : TS} {m : Option ρ} {oc : ρ → Res} {te ta tb : TE} {tt : TT} {d : Dt}
theorem sm_run {r : ρ} (h : m = some r) (p : SM K t es m oc) : SEv K t es (oc r) := p r h
theorem wk_n : Wk [] [] := trivial
theorem wk_e {a : Sl} {as bs : List Sl} (h : Wk as bs) : Wk (a :: as) (a :: bs) := ⟨.inr rfl, h⟩
theorem wk_u {a : Sl} {as bs : List Sl} (h : Wk as bs) : Wk (a :: as) (.un :: bs) := ⟨.inl rfl, h⟩
theorem wk_uns : ∀ {as : List Sl} {n : Nat}, as.length = n → Wk as (List.replicate n .un)
  | [], _, h => by subst h; trivial
  | a :: as, _, h => by subst h; exact ⟨.inl rfl, wk_uns rfl⟩
/-- partial values within a branch -/
theorem ev_pure {α : Type} {em : α → Dt} {v : α} (h : Ev K te es (em v)) : ∀ y, some v = some y → Ev K te es (em y) := fun y e => by cases e; exact h
theorem ev_bnd {α β : Type} {em : β → Dt} {m1 : Option α} {k : α → Option β} (h : ∀ x, m1 = some x → ∀ y, k x = some y → Ev K te es (em y)) : ∀ y, m1.bind k = some y → Ev K te es (em y) := fun y e => by
  cases q : m1 with
  | none => rw [q] at e; cases e
  | some x => rw [q] at e; exact h x q y e
theorem et_pure {v : Bool} (h : EvT K tt es v) : ∀ y, some v = some y → EvT K tt es y := fun y e => by cases e; exact h
theorem et_bnd {α : Type} {m1 : Option α} {k : α → Option Bool} (h : ∀ x, m1 = some x → ∀ y, k x = some y → EvT K tt es y) : ∀ y, m1.bind k = some y → EvT K tt es y := fun y e => by
  cases q : m1 with
  | none => rw [q] at e; cases e
  | some x => rw [q] at e; exact h x q y e
theorem eb_pure {v : Bool} (h : Ev K te es (.bl v)) : ∀ y, some v = some y → Ev K te es (.bl y) := fun y e => by cases e; exact h
theorem eb_bnd {α : Type} {m1 : Option α} {k : α → Option Bool} (h : ∀ x, m1 = some x → ∀ y, k x = some y → Ev K te es (.bl y)) : ∀ y, m1.bind k = some y → Ev K te es (.bl y) := fun y e => by
  cases q : m1 with
  | none => rw [q] at e; cases e
  | some x => rw [q] at e; exact h x q y e
theorem rngC_of {lo hi : Int} (h : -(2 ^ 62) ≤ lo ∧ lo < 2 ^ 62 ∧ -(2 ^ 62) ≤ hi ∧ hi < 2 ^ 62) : rngC lo hi = some (rng lo hi) := if_pos h

/-! ### comprehensions, by their kinds -/
def mapO {α β : Type} : List α → (α → Option β) → Option (List β)
  | [], _ => some []
  | x :: xs, f => (f x).bind fun y => (mapO xs f).bind fun ys => some (y :: ys)
def mapC {α β : Type} (xs : List α) (f : α → Option β) : Option (List β) := if xs.length ≤ 1000000 then mapO xs f else none
def mapP {α β : Type} (xs : List α) (f : α → β) : Option (List β) := if xs.length ≤ 1000000 then some (xs.map f) else none
def filC {α β : Type} (xs : List α) (f : α → Option (Option β)) : Option (List β) := if xs.length ≤ 1000000 then compO xs f else none
theorem compO_mapO {α β : Type} {f : α → Option β} : ∀ {xs : List α}, compO xs (fun x => (f x).bind fun y => some (some y)) = mapO xs f
  | [] => rfl
  | x :: xs => by
    show ((f x).bind _).bind _ = (f x).bind _
    cases f x with
    | none => rfl
    | some y =>
      show (compO xs _).bind _ = (mapO xs f).bind _
      rw [compO_mapO]
      rfl
theorem mapO_map {α β : Type} {f : α → β} : ∀ {xs : List α}, mapO xs (fun x => some (f x)) = some (xs.map f)
  | [] => rfl
  | x :: xs => by
    show (mapO xs _).bind _ = _
    rw [mapO_map]
    rfl
theorem et_yes : EvT K tYes es true := fun F G H σ s Q q => q G H s (Same.refl _)
section
variable {α β : Type} {wi : TI} {g : TG} {vs : List Nat} {xs : List α} {em : α → Dt} {em2 : β → Dt} {ys : List β} {en2 : α → List Sl}
theorem el_map {f : α → Option β} (hi : EvI K wi es (xs.map em)) (hg : ∀ x, EvG K g vs (wipeS es vs) (em x) (en2 x)) (hb : ∀ x, ∀ y, f x = some y → Ev K te (en2 x) (em2 y)) (hd : es.all (fun t => !t.isOwn) = true) (h : mapC xs f = some ys) :
    EvL K (tLc wi g tYes te vs) es (ys.map em2) := by
  unfold mapC at h
  by_cases hz : xs.length ≤ 1000000
  · rw [if_pos hz] at h
    refine el_comp (f := fun x => (f x).bind fun y => some (some y)) hi hz hg (fun x o _ e => ?_) hd (compO_mapO.trans h)
    cases q : f x with
    | none => rw [q] at e; cases e
    | some y =>
      rw [q] at e
      cases e
      exact ⟨et_yes, fun z e => by cases e; exact hb x y q⟩
  · rw [if_neg hz] at h
    cases h
theorem el_mapP {f : α → β} (hi : EvI K wi es (xs.map em)) (hg : ∀ x, EvG K g vs (wipeS es vs) (em x) (en2 x)) (hb : ∀ x, Ev K te (en2 x) (em2 (f x))) (hd : es.all (fun t => !t.isOwn) = true) (h : mapP xs f = some ys) :
    EvL K (tLc wi g tYes te vs) es (ys.map em2) := by
  unfold mapP at h
  by_cases hz : xs.length ≤ 1000000
  · rw [if_pos hz] at h
    exact el_map (f := fun x => some (f x)) hi hg (fun x y e => by cases e; exact hb x) hd (by unfold mapC; rw [if_pos hz, mapO_map]; exact h)
  · rw [if_neg hz] at h
    cases h
theorem cb_if {c : Bool} {m : Option β} (hc : EvT K tt es c) (hb : c = true → ∀ y, m = some y → Ev K te es (em2 y)) : ∀ o, (if c = true then m.bind fun y => some (some y) else some none) = some o → EvT K tt es o.isSome ∧ ∀ y, o = some y → Ev K te es (em2 y) := fun o e => by
  cases c with
  | false =>
    have e : none = o := Option.some.inj e
    subst e
    exact ⟨hc, fun y h => nomatch h⟩
  | true =>
    cases q : m with
    | none => rw [q] at e; cases e
    | some y =>
      rw [q] at e
      have e : some y = o := Option.some.inj e
      subst e
      exact ⟨hc, fun z h => by cases h; exact hb rfl y q⟩
theorem el_fil {tt : TT} {f : α → Option (Option β)} (hi : EvI K wi es (xs.map em)) (hg : ∀ x, EvG K g vs (wipeS es vs) (em x) (en2 x)) (hb : ∀ x, ∀ o, f x = some o → EvT K tt (en2 x) o.isSome ∧ ∀ y, o = some y → Ev K te (en2 x) (em2 y)) (hd : es.all (fun t => !t.isOwn) = true) (h : filC xs f = some ys) :
    EvL K (tLc wi g tt te vs) es (ys.map em2) := by
  unfold filC at h
  by_cases hz : xs.length ≤ 1000000
  · rw [if_pos hz] at h
    exact el_comp hi hz hg (fun x o _ e => hb x o e) hd h
  · rw [if_neg hz] at h
    cases h
end

/-! a comprehension over items that are known one by one -/
def AllEv (K : PySem.W.Frag) (te : TE) {α : Type} (en2 : α → List Sl) : List α → List Dt → Prop
  | [], [] => True
  | x :: xs, d :: ds => Ev K te (en2 x) d ∧ AllEv K te en2 xs ds
  | _, _ => False
theorem ae_n {α : Type} {en2 : α → List Sl} : AllEv K te en2 [] [] := trivial
theorem ae_c {α : Type} {en2 : α → List Sl} {x : α} {xs : List α} {d : Dt} {ds : List Dt} (h : Ev K te (en2 x) d) (r : AllEv K te en2 xs ds) : AllEv K te en2 (x :: xs) (d :: ds) := ⟨h, r⟩
theorem AllEv.len {α : Type} {en2 : α → List Sl} : ∀ {xs : List α} {ds : List Dt}, AllEv K te en2 xs ds → xs.length = ds.length
  | [], [], _ => rfl
  | _ :: _, _ :: _, h => congrArg (· + 1) (AllEv.len h.2)
  | [], _ :: _, h => h.elim
  | _ :: _, [], h => h.elim
theorem AllEv.get {α : Type} {en2 : α → List Sl} : ∀ {xs : List α} {ds : List Dt} {i : Nat} {x : α} {d : Dt}, AllEv K te en2 xs ds → xs[i]? = some x → ds[i]? = some d → Ev K te (en2 x) d
  | [], [], _, _, _, _, e, _ => by simp at e
  | x :: xs, d :: ds, 0, _, _, h, e, e' => by simp at e e'; subst e e'; exact h.1
  | x :: xs, d :: ds, i + 1, _, _, h, e, e' => AllEv.get (i := i) h.2 (by simpa using e) (by simpa using e')
  | [], _ :: _, _, _, _, h, _, _ => h.elim
  | _ :: _, [], _, _, _, h, _, _ => h.elim
theorem el_fix {α : Type} {wi : TI} {g : TG} {vs : List Nat} {xs : List α} {em : α → Dt} {ds : List Dt} {en2 : α → List Sl} (hi : EvI K wi es (xs.map em)) (hz : xs.length ≤ 1000000) (hg : ∀ x, EvG K g vs (wipeS es vs) (em x) (en2 x))
    (hb : AllEv K te en2 xs ds) (hd : es.all (fun t => !t.isOwn) = true) : EvL K (tLc wi g tYes te vs) es ds := fun F G H σ st Q q => by
  refine hi F G H σ st _ fun J G1 H1 s1 g1 y => fun Dl hD => ?_
  have hF : F Dl = none := s1.fnone hD
  have sz : (1000000 : Nat) < sizeLine := by decide
  have hlen := hb.len
  refine ⟨fun i m H' => ∃ (G' : Hp) (acc : List V), Stt K (upd F Dl (.lst acc)) G' H' σ es ∧ Same G1 G' ∧ Reps K G' acc (ds.take i) ∧ m = xs.length - i ∧ i ≤ xs.length,
    ⟨_, G1, [], s1.prot hD, Same.refl _, .nil, rfl, Nat.zero_le _⟩, ?_⟩
  rintro i m H' ⟨G', acc, st', g', racc, rfl, hle⟩
  by_cases hlt : i < xs.length
  · refine .inr ?_
    have hld : i < ds.length := by omega
    obtain ⟨go, yld⟩ := (y i _ G' H' σ es g' st').1 (em xs[i]) (by rw [List.getElem?_map, List.getElem?_eq_getElem hlt]; rfl)
    refine ⟨go, fun H2 => ∃ (G2 : Hp) (acc2 : List V), Stt K (upd F Dl (.lst acc2)) G2 H2 σ es ∧ Same G1 G2 ∧ Reps K G2 acc2 (ds.take (i + 1)),
      fun H2 ⟨G2, acc2, a1, a2, a3⟩ => ⟨xs.length - (i + 1), by omega, G2, acc2, a1, a2, a3, rfl, by omega⟩, fun x H2 hy => ?_⟩
    obtain ⟨G2, st2, g2, rx⟩ := yld x H2 hy
    have hte : Ev K te (en2 xs[i]) ds[i] := hb.get (List.getElem?_eq_getElem hlt) (List.getElem?_eq_getElem hld)
    refine hg xs[i] (upd F Dl (.lst acc)) G2 H2 (L2.wipe σ vs) x (st2.wipe vs) rx _ fun σ3 G3 H3 st3 g3 l3 k3 => ?_
    refine ⟨by rw [wipe_ext (σ := L2.wipe σ vs) l3 k3]; exact wipe_ext (wipe_length _ _) fun k hk => wipe_get hk, ?_⟩
    show te σ3 H3 _
    refine hte _ G3 H3 σ3 st3 _ fun v G5 H5 st5 g5 r5 => ?_
    have hzl2 : acc.length = i := by
      have := racc.length
      rw [List.length_take] at this
      omega
    refine ⟨acc, st5.f Dl _ upd_same, ?_, G5, acc ++ [v], (st2.swap hd st5 (g3.trans g5)).reprot, g'.trans (g2.trans (g3.trans g5)), ?_⟩
    · omega
    · rw [List.take_add_one, List.getElem?_eq_getElem hld]
      exact (racc.mono (g2.trans (g3.trans g5))).append (.cons r5 .nil)
  · have e3 : i = xs.length := by omega
    subst e3
    refine .inl ⟨(y xs.length _ G' H' σ es g' st').2 (by simp), ?_⟩
    rw [hlen, List.take_length] at racc
    exact q Dl acc G' H' st' hF (g1.trans g') racc
theorem ev_ixNG {tb : TE} {ds : List Dt} {i : Int} (n : Nat) (hi : i = (n : Int)) (h : ds[n]? = some d) (ha : Ev K ta es (.tup ds)) (hb : Ev K tb es (.int i)) : Ev K (tOp (rIxT K) ta tb) es d := by
  refine ev_ixT ha hb ?_
  have hlt : n < ds.length := (List.getElem?_eq_some_iff.mp h).1
  unfold atI ixN
  subst hi
  rw [if_pos (by omega), if_pos (by omega)]
  exact h
theorem ev_ixLG {tb : TE} {ds : List Dt} {i : Int} (n : Nat) (hi : i = (n : Int)) (h : ds[n]? = some d) (ha : Ev K ta es (.lst ds)) (hb : Ev K tb es (.int i)) : Ev K (tOp (rIxL K) ta tb) es d := by
  refine ev_ixL ha hb ?_
  have hlt : n < ds.length := (List.getElem?_eq_some_iff.mp h).1
  unfold atI ixN
  subst hi
  rw [if_pos (by omega), if_pos (by omega)]
  exact h
/-! ### == of data -/
mutual
def pd : Dt → PyData
  | .non => .none | .bl b => .bool b | .int i => .int i | .str s => .str s | .ty _ => .none
  | .tup xs => .tuple (pds xs) | .lst xs => .list (pds xs) | .obj _ _ => .none | .dic _ _ => .none
def pds : List Dt → List PyData
  | [] => []
  | x :: xs => pd x :: pds xs
end
mutual
inductive SH : Nat → Dt → Prop
  | non {n : Nat} : SH n .non
  | bl {n : Nat} {b : Bool} : SH n (.bl b)
  | int {n : Nat} {i : Int} : SH n (.int i)
  | str {n : Nat} {s : Str} (h : PyData.canLay0 (.str s) = true) : SH n (.str s)
  | tup {n : Nat} {xs : List Dt} (h : SHs n xs) : SH (n + 1) (.tup xs)
  | lst {n : Nat} {xs : List Dt} (h : SHs n xs) : SH (n + 1) (.lst xs)
inductive SHs : Nat → List Dt → Prop
  | nil {n : Nat} : SHs n []
  | cons {n : Nat} {x : Dt} {xs : List Dt} (h : SH n x) (r : SHs n xs) : SHs n (x :: xs)
end
theorem shI {n : Nat} {i : Int} : SH n (.int i) := .int
theorem shB {n : Nat} {i : Bool} : SH n (.bl i) := .bl
theorem shN {n : Nat} : SH n .non := .non
theorem shT {n : Nat} {xs : List Dt} (h : SHs n xs) : SH (n + 1) (.tup xs) := .tup h
theorem shs_nil {n : Nat} : SHs n [] := .nil
theorem shs_cons {n : Nat} {x : Dt} {xs : List Dt} (h : SH n x) (r : SHs n xs) : SHs n (x :: xs) := .cons h r
theorem shs_map {α : Type} {n : Nat} {e : α → Dt} : ∀ {xs : List α}, (∀ x, SH n (e x)) → SHs n (xs.map e)
  | [], _ => .nil
  | x :: xs, h => .cons (h x) (shs_map h)
theorem shV {α : Type} {n : Nat} {e : α → Dt} {xs : List α} (h : ∀ x, SH n (e x)) : SH (n + 1) (.tup (xs.map e)) := .tup (shs_map h)
theorem shL {α : Type} {n : Nat} {e : α → Dt} {xs : List α} (h : ∀ x, SH n (e x)) : SH (n + 1) (.lst (xs.map e)) := .lst (shs_map h)
theorem shO {α : Type} {n : Nat} {e : α → Dt} {x : Option α} (h : ∀ x, SH n (e x)) : SH n (dO e x) := by
  cases x with
  | none => exact .non
  | some x => exact h x
mutual
theorem SH.lay : ∀ {n : Nat} {d : Dt}, SH n d → (pd d).canLay0 = true ∧ (pd d).depth ≤ n
  | _, _, .non => ⟨by simp [pd, PyData.canLay0], by simp [pd, PyData.depth]⟩
  | _, _, .bl => ⟨by simp [pd, PyData.canLay0], by simp [pd, PyData.depth]⟩
  | _, _, .int => ⟨by simp [pd, PyData.canLay0], by simp [pd, PyData.depth]⟩
  | _, _, .str h => ⟨by simpa [pd] using h, by simp [pd, PyData.depth]⟩
  | _, _, .tup h => by
    obtain ⟨a, b⟩ := SHs.lay h
    exact ⟨by simpa [pd, PyData.canLay0] using a, by simp [pd, PyData.depth]; exact b⟩
  | _, _, .lst h => by
    obtain ⟨a, b⟩ := SHs.lay h
    exact ⟨by simpa [pd, PyData.canLay0] using a, by simp [pd, PyData.depth]; exact b⟩
theorem SHs.lay : ∀ {n : Nat} {ds : List Dt}, SHs n ds → PyData.canLayAll0 (pds ds) = true ∧ PyData.depthAll (pds ds) ≤ n
  | _, _, .nil => ⟨by simp [pds, PyData.canLayAll0], by simp [pds, PyData.depthAll]⟩
  | _, _, .cons h r => by
    obtain ⟨a, b⟩ := SH.lay h
    obtain ⟨c, d⟩ := SHs.lay r
    exact ⟨by simp [pds, PyData.canLayAll0, a, c], by simp [pds, PyData.depthAll]; omega⟩
end
mutual
theorem SH.dp {G H : Hp} (g : Same G H) : ∀ {n : Nat} {d : Dt} {v : V}, SH n d → Rep K G v d → Dp K H v (pd d)
  | _, _, _, .non, .non => by simp only [pd]; exact .non
  | _, _, _, .bl, .bl b => by simp only [pd]; exact .bl b
  | _, _, _, .int, .int i => by simp only [pd]; exact .int i
  | _, _, _, .str _, .str s => by simp only [pd]; exact .str s
  | _, _, _, .tup h, .tup hs r => by simp only [pd]; exact .tup (sqT_mono g hs) (SHs.dp g h r)
  | _, _, _, .lst h, .lst hs r => by simp only [pd]; exact .lst (g.seq hs) (SHs.dp g h r)
theorem SHs.dp {G H : Hp} (g : Same G H) : ∀ {n : Nat} {ds : List Dt} {vs : List V}, SHs n ds → Reps K G vs ds → DpAll K H vs (pds ds)
  | _, _, _, .nil, .nil => by simp only [pds]; exact .nil
  | _, _, _, .cons h r, .cons a b => by simp only [pds]; exact .cons (SH.dp g h a) (SHs.dp g r b)
end
def eqD (a b : Dt) : Bool := PyData.eqv (pd a) (pd b)
theorem shaped_of {d : Dt} (h : SH 64 d) : SeqAt.shaped (pd d) = true := by
  obtain ⟨a, b⟩ := h.lay
  unfold SeqAt.shaped
  rw [a, decide_eq_true b]
  rfl
theorem ev_eqD {a b : Dt} (sa : SH 64 a) (sb : SH 64 b) (ha : Ev K ta es a) (hb : Ev K tb es b) : Ev K (tOp (rEqD K) ta tb) es (.bl (eqD a b)) := ev_op ha hb fun F G H σ es x y s rx ry Q q =>
  ⟨pd a, pd b, sa.dp s.g rx, sb.dp s.g ry, shaped_of sa, shaped_of sb, q _ G H s (Same.refl _) (.bl _)⟩
theorem ev_neD {a b : Dt} (sa : SH 64 a) (sb : SH 64 b) (ha : Ev K ta es a) (hb : Ev K tb es b) : Ev K (tOp (rNeD K) ta tb) es (.bl (!eqD a b)) := ev_op ha hb fun F G H σ es x y s rx ry Q q =>
  ⟨pd a, pd b, sa.dp s.g rx, sb.dp s.g ry, shaped_of sa, shaped_of sb, q _ G H s (Same.refl _) (.bl _)⟩
theorem ev_lenVN {ds : List Dt} (n : Int) (ha : Ev K ta es (.tup ds)) (h : (ds.length : Int) = n) : Ev K (tCB (rLenS K) (tCons ta tNil)) es (.int n) := h ▸ ev_lenV ha
theorem ev_lenLN {ds : List Dt} (n : Int) (ha : Ev K ta es (.lst ds)) (h : (ds.length : Int) = n) : Ev K (tCB (rLenS K) (tCons ta tNil)) es (.int n) := h ▸ ev_lenL ha
theorem ev_some {α : Type} {em : α → Dt} {o : Option α} {x : α} (h : o = some x) (ha : Ev K te es (dO em o)) : Ev K te es (em x) := by
  subst h
  exact ha
def rIsB1 : R2 := fun x y H Q => ∃ a b : Bool, x = .bl a ∧ y = .bl b ∧ Q (.bl (decide (a = b))) H
def rNotB1 : R2 := fun x y H Q => ∃ a b : Bool, x = .bl a ∧ y = .bl b ∧ Q (.bl (!decide (a = b))) H
theorem op_isB1 {X : Cx} : OpR X (compareOp .Is) rIsB1 := op_isBl
theorem op_nisB1 {X : Cx} : OpR X (compareOp .IsNot) rNotB1 := op_notBl
theorem ev_isB {a b : Bool} (ha : Ev K ta es (.bl a)) (hb : Ev K tb es (.bl b)) : Ev K (tOp rIsB1 ta tb) es (.bl (decide (a = b))) := ev_op ha hb fun F G H σ es x y s rx ry Q q => by
  cases rx
  cases ry
  exact ⟨a, b, rfl, rfl, q _ G H s (Same.refl _) (.bl _)⟩
theorem ev_nisB {a b : Bool} (ha : Ev K ta es (.bl a)) (hb : Ev K tb es (.bl b)) : Ev K (tOp rNotB1 ta tb) es (.bl (!decide (a = b))) := ev_op ha hb fun F G H σ es x y s rx ry Q q => by
  cases rx
  cases ry
  exact ⟨a, b, rfl, rfl, q _ G H s (Same.refl _) (.bl _)⟩
theorem kit_self (K : PySem.W.Frag) (t : Value) : PySem.W.kitOne K t t = some true := if_pos (beq_iff_eq.mpr rfl)
/-- isinstance of an instance of an own class against that class -/
theorem ev_isiC {C : Addr} {fs : List (Str × Dt)} (cl : Cls K C) (h1 : PySem.W.findIn K (.ref C) "__class__" = some (some (.builtin "object.__class__"))) (h2 : PySem.W.specialIn K (.builtin "object.__class__") "__get__" = some (some (.builtin "getset_descriptor.__get__")))
    (h3 : PySem.W.takesIn K (.builtin "object.__class__") = some true) (h4 : PySem.W.mroIn K C (.type "object") = some true) (ha : Ev K ta es (.obj C fs)) : Ev K (tCB (rIsi K) (tCons ta (tCons (tC (.ref C)) tNil))) es (.bl true) := fun F G H σ s Q q =>
  ha F G H σ s _ fun x G1 H1 s1 g1 r1 => by
    cases r1 with
    | obj h r => exact ⟨_, _, _, _, true, rfl, .own C, .base (.ins (s1.g _ _ h) cl h1 h2 h3 h4), kit_self K (.ref C), q _ G1 H1 s1 g1 (.bl _)⟩
/-! is None -/
def isNon : Dt → Bool
  | .non => true
  | _ => false
theorem rep_non {G : Hp} {x : V} {d : Dt} (r : Rep K G x d) : decide (x = V.non) = isNon d := by
  cases r <;> simp [isNon]
theorem ev_isN (ha : Ev K ta es .non) : Ev K (tOp rIsN ta (tC .non)) es (.bl true) := fun F G H σ s Q q => ha F G H σ s _ fun x G1 H1 s1 g1 r1 => by
  cases r1
  exact ⟨rfl, q _ G1 H1 s1 g1 (.bl _)⟩
theorem ev_isG {b : Bool} (ha : Ev K ta es d) (hb : isNon d = b) : Ev K (tOp rIsN ta (tC .non)) es (.bl b) := fun F G H σ s Q q => ha F G H σ s _ fun x G1 H1 s1 g1 r1 => by
  refine ⟨rfl, ?_⟩
  rw [rep_non r1, hb]
  exact q _ G1 H1 s1 g1 (.bl _)
theorem ev_nisG {b : Bool} (ha : Ev K ta es d) (hb : isNon d = b) : Ev K (tOp rNotN ta (tC .non)) es (.bl (!b)) := fun F G H σ s Q q => ha F G H σ s _ fun x G1 H1 s1 g1 r1 => by
  refine ⟨rfl, ?_⟩
  rw [rep_non r1, hb]
  exact q _ G1 H1 s1 g1 (.bl _)
theorem isO {α : Type} {em : α → Dt} (h : ∀ x, em x = .non → False) (o : Option α) : isNon (dO em o) = o.isNone := by
  cases o with
  | none => rfl
  | some x =>
    show isNon (em x) = false
    cases q : em x with
    | non => exact (h x q).elim
    | _ => rfl
theorem ev_isO {α : Type} {em : α → Dt} {o : Option α} (h : ∀ x, em x = .non → False) (ha : Ev K ta es (dO em o)) : Ev K (tOp rIsN ta (tC .non)) es (.bl o.isNone) := ev_isG ha (isO h o)
theorem ev_nisO {α : Type} {em : α → Dt} {o : Option α} (h : ∀ x, em x = .non → False) (ha : Ev K ta es (dO em o)) : Ev K (tOp rNotN ta (tC .non)) es (.bl (!o.isNone)) := ev_nisG ha (isO h o)
theorem ev_isD (h : d = .non → False) (ha : Ev K ta es d) : Ev K (tOp rIsN ta (tC .non)) es (.bl false) := ev_isG ha (by cases d <;> first | rfl | exact (h rfl).elim)
theorem ev_nisD (h : d = .non → False) (ha : Ev K ta es d) : Ev K (tOp rNotN ta (tC .non)) es (.bl (!false)) := ev_nisG ha (by cases d <;> first | rfl | exact (h rfl).elim)
/-! in -/
theorem reps_int {G : Hp} {vs : List V} {xs : List Int} (r : Reps K G vs (xs.map Dt.int)) : vs = xs.map V.int := ints_of r
theorem inV_int {i : Int} : ∀ {xs : List Int}, inV (.int i) (xs.map V.int) = decide (i ∈ xs)
  | [] => rfl
  | x :: xs => by
    have ih := inV_int (i := i) (xs := xs)
    unfold inV at ih ⊢
    rw [List.map_cons, List.any_cons, ih]
    show (x == i || decide (i ∈ xs)) = decide (i ∈ x :: xs)
    rw [Bool.eq_iff_iff, Bool.or_eq_true, beq_iff_eq, decide_eq_true_eq, decide_eq_true_eq, List.mem_cons]
    exact ⟨fun h => h.imp Eq.symm (fun x => x), fun h => h.imp Eq.symm (fun x => x)⟩
theorem all_int : ∀ {xs : List Int}, (xs.map V.int).all flatV = true
  | [] => rfl
  | x :: xs => by
    rw [List.map_cons, List.all_cons, all_int]
    rfl
theorem ev_inTI {i : Int} {xs : List Int} (ha : Ev K ta es (.int i)) (hb : Ev K tb es (.tup (xs.map Dt.int))) : Ev K (tOp (rIn K false) ta tb) es (.bl (decide (i ∈ xs))) := ev_op ha hb fun F G H σ es x y s rx ry Q q => by
  cases rx
  cases ry with
  | tup h r =>
    obtain rfl := ints_of r
    refine ⟨_, _, rfl, .inr (sqT_mono s.g h), rfl, all_int, ?_⟩
    show Q (.bl (inV (.int i) (xs.map V.int))) H
    rw [inV_int]
    exact q _ G H s (Same.refl _) (.bl _)
theorem ev_ninTI {i : Int} {xs : List Int} (ha : Ev K ta es (.int i)) (hb : Ev K tb es (.tup (xs.map Dt.int))) : Ev K (tOp (rIn K true) ta tb) es (.bl (!decide (i ∈ xs))) := ev_op ha hb fun F G H σ es x y s rx ry Q q => by
  cases rx
  cases ry with
  | tup h r =>
    obtain rfl := ints_of r
    refine ⟨_, _, rfl, .inr (sqT_mono s.g h), rfl, all_int, ?_⟩
    show Q (.bl (!inV (.int i) (xs.map V.int))) H
    rw [inV_int]
    exact q _ G H s (Same.refl _) (.bl _)
theorem ev_inLI {i : Int} {xs : List Int} (ha : Ev K ta es (.int i)) (hb : Ev K tb es (.lst (xs.map Dt.int))) : Ev K (tOp (rIn K false) ta tb) es (.bl (decide (i ∈ xs))) := ev_op ha hb fun F G H σ es x y s rx ry Q q => by
  cases rx
  cases ry with
  | lst h r =>
    obtain rfl := ints_of r
    refine ⟨_, _, rfl, .inl (s.g.seq h), rfl, all_int, ?_⟩
    show Q (.bl (inV (.int i) (xs.map V.int))) H
    rw [inV_int]
    exact q _ G H s (Same.refl _) (.bl _)
theorem ev_ninLI {i : Int} {xs : List Int} (ha : Ev K ta es (.int i)) (hb : Ev K tb es (.lst (xs.map Dt.int))) : Ev K (tOp (rIn K true) ta tb) es (.bl (!decide (i ∈ xs))) := ev_op ha hb fun F G H σ es x y s rx ry Q q => by
  cases rx
  cases ry with
  | lst h r =>
    obtain rfl := ints_of r
    refine ⟨_, _, rfl, .inl (s.g.seq h), rfl, all_int, ?_⟩
    show Q (.bl (!inV (.int i) (xs.map V.int))) H
    rw [inV_int]
    exact q _ G H s (Same.refl _) (.bl _)
end
/-! ### the law's own promise -/
theorem reps_ofInts {K : PySem.W.Frag} {G : Hp} : ∀ (ns : List Int), Reps K G (ns.map V.int) (ns.map Dt.int)
  | [] => .nil
  | n :: ns => .cons (.int n) (reps_ofInts ns)
theorem law_sp {K : PySem.W.Frag} {f : List Int → Option Bool} {ns : List Int} {a : Addr} {H : Hp} (h : f ns = some true) (hS : SqL K H a (ns.map V.int)) :
    FSpec K (RD fun ds d => ∃ (ns : List Int) (r : Bool), ds = [.lst (ns.map Dt.int)] ∧ f ns = some r ∧ d = .bl r) [.ref a] H (fun v _ => v = .bl true) fun _ _ _ => False :=
  ⟨fun _ => none, H, [.d (.lst (ns.map Dt.int))], .bl true, [.d (.lst (ns.map Dt.int))], stt_data (vs := [.ref a]) (ds := [.lst (ns.map Dt.int)]) (fun _ _ e => nomatch e) (Same.refl _) (fun _ _ e => nomatch e) (.cons (.lst hS (reps_ofInts ns)) .nil),
    ⟨_, rfl, rfl, ns, true, rfl, h, rfl⟩, fun v G' H' _ _ r => by cases r; rfl⟩
end DL

/-! Dl7: list + list, pieces of lists and tuples. -/
namespace L2
open PySem PySem.Spec PyProof.Rows
section
variable {X : Cx}
def rCatG (K : PySem.W.Frag) : R2 := fun x y H Q => ∃ a b xs ys, x = .ref a ∧ y = .ref b ∧ SqL K H a xs ∧ SqL K H b ys ∧ xs.length + ys.length ≤ sizeLine ∧ ∀ p, H p = none → Q (.ref p) (upd H p (.lst (xs ++ ys)))
theorem op_catG : OpR X (binaryOp .Add) (rCatG X.K) := by
  intro pins s σ H x y v u Q I rx ry h
  obtain ⟨a, b, xs, ys, rfl, rfl, ha, hb, hz, q⟩ := h
  cases rx
  cases ry
  obtain ⟨its, r, ht, h1⟩ := I.list ha
  obtain ⟨its2, r2, ht2, h2⟩ := I.list hb
  obtain ⟨⟨cls, dd, data, sl⟩, ho, hc, n, hd⟩ := ht.isList
  obtain ⟨⟨cls2, dd2, data2, sl2⟩, ho2, hc2, n2, hd2⟩ := ht2.isList
  simp only at hc hd hc2 hd2
  subst hc hd hc2 hd2
  have l1 := r.length
  have l2 := r2.length
  refine concat_meets ⟨_, ho, rfl⟩ ⟨_, ho2, rfl⟩ noFill_list_add seq_list_add PySem.F.slot_list_add PySem.F.entry_list_add (PySem.F.args_list_add_2 _ _) (list_addW a b its.toArray its2.toArray n n2 dd dd2 sl sl2 (by rw [List.size_toArray, List.size_toArray]; omega)) ⟨ho, ho2, ?_⟩
  have ea : its.toArray ++ its2.toArray = (its ++ its2).toArray := by simp
  rw [ea]
  exact ⟨.ref _, _, I.lnew (t' := s.toks) (r.append r2) (by rw [List.length_append]; omega), rfl, q _ I.fresh⟩
end
end L2
namespace DL
open PySem L2
section
variable {K : PySem.W.Frag} {es : List Sl} {ta tb te : TE} {d : Dt}
theorem el_catD {d1 d2 : List Dt} (ha : Ev K ta es (.lst d1)) (hb : Ev K tb es (.lst d2)) (hz : d1.length + d2.length ≤ 10000000) : EvL K (tOp (rCatG K) ta tb) es (d1 ++ d2) := fun F G H σ s Q q =>
  ha F G H σ s _ fun x G1 H1 s1 g1 r1 => hb F G1 H1 σ s1 _ fun y G2 H2 s2 g2 r2 => by
    cases r1 with
    | lst h1 q1 =>
      cases r2 with
      | lst h2 q2 =>
        refine ⟨_, _, _, _, rfl, rfl, s2.g.seq (g2.seq h1), s2.g.seq h2, ?_, fun p hp => q p _ G2 _ (s2.prot hp) (s2.fnone hp) (g1.trans g2) ((q1.mono g2).append q2)⟩
        rw [q1.length, q2.length]
        exact Nat.le_trans hz (by decide)
def catC {α : Type} (xs ys : List α) : Option (List α) := if xs.length + ys.length ≤ 10000000 then some (xs ++ ys) else none
theorem el_cat {α : Type} {em : α → Dt} {xs ys zs : List α} (ha : Ev K ta es (.lst (xs.map em))) (hb : Ev K tb es (.lst (ys.map em))) (h : catC xs ys = some zs) : EvL K (tOp (rCatG K) ta tb) es (zs.map em) := by
  unfold catC at h
  split at h
  · rename_i hz
    cases h
    rw [List.map_append]
    exact el_catD ha hb (by rw [List.length_map, List.length_map]; exact hz)
  · cases h
/-! pieces -/
def cutL {α : Type} (xs : List α) (lo hi : Option Int) : List α := (xs.drop (HT.sIx xs.length 0 lo)).take (HT.sIx xs.length xs.length hi - HT.sIx xs.length 0 lo)
theorem cutL_map {α β : Type} (f : α → β) (xs : List α) (lo hi : Option Int) : cutL (xs.map f) lo hi = (cutL xs lo hi).map f := by
  unfold cutL
  rw [List.length_map, List.map_take, List.map_drop]
theorem eo_none : EvO K tNoPart es none := fun F G H σ s Q q => q G H s (Same.refl _)
theorem eo_some {i : Int} (h : Ev K te es (.int i)) : EvO K (tPart te) es (some i) := fun F G H σ s Q q => h F G H σ s _ fun x G1 H1 s1 g1 r1 => by
  cases r1
  exact ⟨i, rfl, q G1 H1 s1 g1⟩
theorem el_cutD {tl th : TO} {lo hi : Option Int} {ds : List Dt} (ha : Ev K te es (.lst ds)) (hl : EvO K tl es lo) (hh : EvO K th es hi) : EvL K (tSl (rSlL K) te tl th) es (cutL ds lo hi) := fun F G H σ s Q q =>
  ha F G H σ s _ fun x G1 H1 s1 g1 r1 => hl F G1 H1 σ s1 _ fun G2 H2 s2 g2 => hh F G2 H2 σ s2 _ fun G3 H3 s3 g3 => by
    cases r1 with
    | lst h r =>
      refine ⟨_, _, rfl, s3.g.seq (g3.seq (g2.seq h)), fun p hp => q p _ G3 _ (s3.prot hp) (s3.fnone hp) (g1.trans (g2.trans g3)) ?_⟩
      have r := (r.mono g2).mono g3
      unfold cutV cutL
      rw [r.length]
      exact (r.drop _).take _
theorem el_cut {α : Type} {em : α → Dt} {tl th : TO} {lo hi : Option Int} {xs : List α} (ha : Ev K te es (.lst (xs.map em))) (hl : EvO K tl es lo) (hh : EvO K th es hi) : EvL K (tSl (rSlL K) te tl th) es ((cutL xs lo hi).map em) := by
  rw [← cutL_map]
  exact el_cutD ha hl hh
end
open PySem PySem.Spec PyProof.Rows in
/-- a field, the part of the program named -/
theorem pe_fldK {X : Cx} {K : PySem.W.Frag} (f : Str) {e : Expr} {ta : TE} {pos : Pos} (he : PE X e ta) (hK : X.K = K) (hb : attributeBase e f X.env (eval e X.env) = eval e X.env) : PE X (.Attribute e f pos) (tFld K ta f) := by
  subst hK
  exact pe_fld he hb
end DL

/-! Dl8: defs with defaults, calls with keywords. -/
namespace DL
open PySem L2
section
variable {P : Program} {w : World} {K : PySem.W.Frag} {mg : Str → Option Value} {base : Heap}
theorem fn_DD {x qual : Str} {st : Stmt} {f : Addr} {fd : FuncData} {N ps : List Str} {k : Nat} {R : List Dt → Dt → Prop} {dvs : List V} {kws : List (Str × V)} (F : FunD K x qual (defArgs st) (defBody st) (defScope st) dvs kws f fd) (S : FnScope N ps (defScope st)) (hl : ∀ ds d, R ds d → ds.length = ps.length)
    (body : ∀ (cdv : Value) (A : Around) (outer : List Env) (s : Shared) (H : Hp) (E : XK), Room k (A.deeper (PyProof.Rows.envOfC qual (defScope st) s.heap.objs.size f cdv)) →
      ∃ t, PSs (cxOf CX0 P w K mg base N qual (defScope st) f cdv A outer s H E).nox (defBody st) t ∧ ∀ ds d, R ds d → ∃ o es, SEv K t (ds.map .d ++ List.replicate (N.length - ps.length) .un) o ∧ Ends2 d es o) :
    FnOk P w K mg base CX0 (k + 1) f fd ps (FSpec K (RD R)) := by
  refine F.ok S (fun vs H Q E h => ?_) (fun cdv A outer s H vs Q E hr h => ?_)
  · obtain ⟨F, G, ss, d, ss', s, ⟨ds, rfl, _, hR⟩, _⟩ := h
    have := s.len
    rw [List.length_map, List.length_map, hl ds d hR] at this
    exact this
  · obtain ⟨t, ht, hb⟩ := body cdv A outer s H E hr
    refine ⟨t, ht.nox, ?_⟩
    obtain ⟨F1, G, ss, d, ss', st1, ⟨ds, rfl, rfl, hR⟩, q⟩ := h
    obtain ⟨o, es, hs, he⟩ := hb ds d hR
    refine hs F1 G H _ _ (stt_start st1 (by rw [List.length_map, hl ds d hR])) (good_end he fun v G' H' σ' s' g r => ?_)
    have rs : Reps K G vs ds := data_of (vs := vs) (ds := ds) (K := K) (F := F1) (G := G) (H := H) (by have := st1.len; simpa using this) st1.sl
    exact q v G' H' (stt_data s'.f s'.g s'.dj (rs.mono g)) g r
theorem fn_ID {x qual : Str} {st : Stmt} {f : Addr} {fd : FuncData} {N ps : List Str} {k : Nat} {C : Addr} {R : List Dt → List (Str × Dt) → Prop} {dvs : List V} {kws : List (Str × V)} (F : FunD K x qual (defArgs st) (defBody st) (defScope st) dvs kws f fd) (S : FnScope N ps (defScope st)) (hl : ∀ ds d, R ds d → ds.length + 1 = ps.length)
    (body : ∀ (cdv : Value) (A : Around) (outer : List Env) (s : Shared) (H : Hp) (E : XK), Room k (A.deeper (PyProof.Rows.envOfC qual (defScope st) s.heap.objs.size f cdv)) →
      ∃ t, PSs (cxOf CX0 P w K mg base N qual (defScope st) f cdv A outer s H E).nox (defBody st) t ∧ ∀ p ds fs, R ds fs → ∃ o es, SEv K t (.obo (some p) C [] :: ds.map .d ++ List.replicate (N.length - ps.length) .un) o ∧ Ends2 .non (.obo (some p) C fs :: es) o) :
    FnOk P w K mg base CX0 (k + 1) f fd ps (FSpec K (RI C R)) := by
  refine F.ok S (fun vs H Q E h => ?_) (fun cdv A outer s H vs Q E hr h => ?_)
  · obtain ⟨F, G, ss, d, ss', s, ⟨p, ds, fs, rfl, _, _, hR⟩, _⟩ := h
    have := s.len
    rw [List.length_map, List.length_cons, List.length_map, hl ds fs hR] at this
    exact this
  · obtain ⟨t, ht, hb⟩ := body cdv A outer s H E hr
    refine ⟨t, ht.nox, ?_⟩
    obtain ⟨F1, G, ss, d, ss', st1, ⟨p, ds, fs, rfl, rfl, rfl, hR⟩, q⟩ := h
    obtain ⟨o, es, hs, he⟩ := hb p ds fs hR
    refine hs F1 G H _ _ (stt_start st1 (by rw [List.length_cons, List.length_map, hl ds fs hR])) (good_end he fun v G' H' σ' s' g r => ?_)
    cases vs with
    | nil =>
      have := st1.len
      simp at this
    | cons v0 vs =>
      obtain ⟨o0, ho0, p0, dx0, fv0, e0, g0, f0, h0, r0, a0⟩ := st1.sl 0 _ rfl
      cases ho0
      cases e0
      obtain rfl := a0 p rfl
      obtain ⟨o1, ho1, p1, dx1, fv1, e1, g1, f1, h1, r1, a1⟩ := s'.sl 0 _ rfl
      subst e1
      obtain rfl := a1 _ rfl
      have rs : Reps K G vs ds := data_of (vs := vs) (ds := ds) (K := K) (F := F1) (G := G) (H := H) (by have := st1.len; simpa using this) fun i t e => st1.sl (i + 1) t e
      have base := stt_data s'.f s'.g s'.dj (rs.mono g)
      refine q v G' H' ⟨base.f, base.g, base.dj, by rw [List.map_cons, List.length_cons, List.length_cons, base.len], fun i t e => ?_, sp_one⟩ g r
      · cases i with
        | zero =>
          cases e
          exact ⟨_, rfl, p, dx1, fv1, rfl, g1, f1, h1, r1, a1⟩
        | succ i => exact base.sl i t e
end
section
variable {K : PySem.W.Frag} {es : List Sl} {ta tk : TA} {E : XK}
def tPermA (n m : Nat) (fV : List V → List V → List V) (t tk : TA) : TA := fun σ H Q => t σ H fun vs H1 => tk σ H1 fun zs H2 => vs.length = n ∧ zs.length = m ∧ Q (fV vs zs) H2
theorem ea_perm {n m : Nat} {fV : List V → List V → List V} {ds ks ds' : List Dt} (ha : EvA K ta es ds) (hk : EvA K tk es ks) (hn : ds.length = n) (hm : ks.length = m) (hf : ∀ G vs zs, Reps K G vs ds → Reps K G zs ks → Reps K G (fV vs zs) ds') : EvA K (tPermA n m fV ta tk) es ds' := fun F G H σ s Q q =>
  ha F G H σ s _ fun vs G1 H1 s1 g1 r1 => hk F G1 H1 σ s1 _ fun zs G2 H2 s2 g2 r2 => ⟨by rw [r1.length, hn], by rw [r2.length, hm], q _ G2 H2 s2 (g1.trans g2) (hf G2 vs zs (r1.mono g2) r2)⟩
/-- C(.., k = v, ..) -/
theorem ev_makeK {P : List Dt → List (Str × Dt) → Prop} {C : Addr} {fs : List (Str × Dt)} {n m : Nat} {fV gV : List V → List V → List V} {ds ks ds' : List Dt} (ha : EvA K ta es ds) (hk : EvA K tk es ks) (hn : ds.length = n) (hm : ks.length = m)
    (hg : ∀ x vs zs, vs.length = n → zs.length = m → gV (.ref x :: vs) zs = .ref x :: fV vs zs) (hf : ∀ G vs zs, Reps K G vs ds → Reps K G zs ks → Reps K G (fV vs zs) ds') (hP : P ds' fs) : Ev K (tMakeK C n m (FSpec K (RI C P)) gV E ta tk) es (.obj C fs) := fun F G H σ s Q q => by
  have h2 := ev_make (E := E) (ea_perm ha hk hn hm hf) hP F G H σ s Q q
  have e : tMake C (FSpec K (RI C P)) [] E (tPermA n m fV ta tk) σ H Q = tMakeK C n m (FSpec K (RI C P)) gV E ta tk σ H Q := by
    unfold tMake tMakeK tPermA
    refine congrArg (ta σ H) (funext fun vs => funext fun H1 => congrArg (tk σ H1) (funext fun zs => funext fun H2 => propext ?_))
    constructor
    · rintro ⟨a, b, c⟩
      refine ⟨a, b, fun x dx h1 h2 h3 => ?_⟩
      have := c x dx h1 h2 h3
      rw [List.append_nil] at this
      rw [hg x vs zs a b]
      exact this
    · rintro ⟨a, b, c⟩
      refine ⟨a, b, fun x dx h1 h2 h3 => ?_⟩
      have := c x dx h1 h2 h3
      rw [hg x vs zs a b] at this
      rw [List.append_nil]
      exact this
  exact e ▸ h2
end
/-! facts of keyword-only defaults -/
def KwL (K : PySem.W.Frag) (D : Addr) (kws : List (Str × V)) : Prop := ∀ q ∈ kws, ∃ u, PySem.W.nsIn K D q.1 = some (some u) ∧ RelV q.2 u
theorem kwl_nil {K : PySem.W.Frag} {D : Addr} : KwL K D [] := fun _ h => nomatch h
theorem kwl_cons {K : PySem.W.Frag} {D : Addr} {n : Str} {v : V} {u : Value} {kws : List (Str × V)} (h : PySem.W.nsIn K D n = some (some u)) (r : RelV v u) (t : KwL K D kws) : KwL K D ((n, v) :: kws) := fun q hq => by
  rcases List.mem_cons.mp hq with rfl | hq
  · exact ⟨u, h, r⟩
  · exact t q hq
theorem relI {i : Int} {t : Tok} : RelV (.int i) (.int i t) := ⟨t, rfl⟩
theorem relN : RelV .non .none := rfl
theorem relB {b : Bool} : RelV (.bl b) (.bool b) := rfl
open PyProof.Rows in
/-- a def with keyword-only defaults, as it stands -/
theorem fund_mk {K : PySem.W.Frag} {x qual : Str} {st : Stmt} {f D : Addr} {oc : Value} {od an : Option Addr} {osl : Array (Option Value)} {doc pm cdv ct : Value} {kws : List (Str × V)}
    (l : K.lookup f = some ⟨oc, od, .func (PySem.W.fnOf x qual (defArgs st) (defBody st) (defScope st) .none (.ref D) doc pm an cdv ct), osl⟩)
    (c : PySem.W.codeIn K cdv qual = true) (k : PySem.W.keepIn K (.ref f) = true) (q : KwL K D kws) : FunD K x qual (defArgs st) (defBody st) (defScope st) [] kws f (PySem.W.fnOf x qual (defArgs st) (defBody st) (defScope st) .none (.ref D) doc pm an cdv ct) :=
  ⟨⟨oc, od, .none, .ref D, doc, pm, an, cdv, ct, osl, rfl, l, c, .inl ⟨rfl, rfl⟩, .inr ⟨D, rfl, q⟩⟩, k⟩
/-! a default that is an empty tuple of the world -/
theorem relR {a : Addr} : RelV (.ref a) (.ref a) := rfl
theorem tup0_mk {K : PySem.W.Frag} {a : Addr} {od : Option Addr} {its : Array Value} {n : Nat} {sl : Array (Option Value)} (l : K.lookup a = some ⟨.type "tuple", od, .seq its n, sl⟩) (hz : its = #[]) : ∀ G : Hp, Rep K G (.ref a) (.tup []) := fun G => by
  subst hz
  exact .tup (.inr ⟨_, _, n, l, rfl, rfl, by decide, .nil⟩) .nil
end DL

/-! Dl9: chains of four operands, slots set aside, ranges downward, tuple + tuple, calls with keywords. -/
namespace L2
open PySem PySem.Spec PyProof.Rows
section
variable {X : Cx} {a b c d : Expr} {ta tb tc td : TE} {pos : Pos}
def tChain3 (r r' r'' : R2) (ta tb tc td : TE) : TE := fun σ H Q => ta σ H fun x H1 => tb σ H1 fun y H2 => r x y H2 fun z H3 => ∃ k, z = .bl k ∧
  (if k = true then tc σ H3 fun w H4 => r' y w H4 fun z2 H5 => ∃ k2, z2 = .bl k2 ∧ (if k2 = true then td σ H5 fun u H6 => r'' w u H6 Q else Q (.bl false) H5) else Q (.bl false) H3)
theorem pe_chain3 {op op' op'' : CmpOp} {r r' r'' : R2} (ho : OpR X (compareOp op) r) (ho' : OpR X (compareOp op') r') (ho'' : OpR X (compareOp op'') r'') (ha : PE X a ta) (hb : PE X b tb) (hc : PE X c tc) (hd : PE X d td)
    (hm : lastMarks [op, op', op''] [b, c, d] = false := by with_unfolding_all rfl) : PE X (.Compare a [op, op', op''] [b, c, d] pos) (tChain3 r r' r'' ta tb tc td) := by
  refine ⟨fun pins s σ H Q I h => ?_⟩
  refine Compare_chain (thn (ha.run pins s σ H _ I h) fun v s1 ⟨x, H1, I1, r1, q1⟩ => chain_link (thn (hb.run pins s1 σ H1 _ I1 q1) fun u s2 ⟨y, H2, I2, r2, q2⟩ =>
    thn (ho pins s2 σ H2 x y v u _ I2 r1 r2 q2) fun d s3 ⟨z, H3, I3, r3, k, e, q3⟩ => ?_)) hm
  subst e
  cases r3
  refine wpAny_truthy_bool ?_
  cases k with
  | false => exact ite_ff ⟨.bl false, H3, I3, rfl, q3⟩
  | true =>
    refine ite_tt (chain_link (thn (hc.run pins s3 σ H3 _ I3 q3) fun w s4 ⟨z', H4, I4, r4, q4⟩ => thn (ho' pins s4 σ H4 y z' u w _ I4 r2 r4 q4) fun d' s5 ⟨z2, H5, I5, r5, k2, e2, q5⟩ => ?_))
    subst e2
    cases r5
    refine wpAny_truthy_bool ?_
    cases k2 with
    | false => exact ite_ff ⟨.bl false, H5, I5, rfl, q5⟩
    | true => exact ite_tt (chain_last (thn (hd.run pins s5 σ H5 _ I5 q5) fun w' s6 ⟨z'', H6, I6, r6, q6⟩ => ho'' pins s6 σ H6 z' z'' w w' Q I6 r4 r6 q6))
theorem pt_chain3 {op op' op'' : CmpOp} {r r' r'' : R2} (ho : OpR X (compareOp op) r) (ho' : OpR X (compareOp op') r') (ho'' : OpR X (compareOp op'') r'') (ha : PE X a ta) (hb : PE X b tb) (hc : PE X c tc) (hd : PE X d td)
    (hm : lastMarks [op, op', op''] [b, c, d] = false := by with_unfolding_all rfl) : PT X (.Compare a [op, op', op''] [b, c, d] pos) (tTest (tChain3 r r' r'' ta tb tc td)) := by
  refine ⟨fun pins s σ H Q I h => ?_⟩
  refine isTrue_chain (thn (ha.run pins s σ H _ I h) fun v s1 ⟨x, H1, I1, r1, q1⟩ => test_link (thn (hb.run pins s1 σ H1 _ I1 q1) fun u s2 ⟨y, H2, I2, r2, q2⟩ =>
    thn (ho pins s2 σ H2 x y v u _ I2 r1 r2 q2) fun d s3 ⟨z, H3, I3, r3, k, e, q3⟩ => ?_)) hm
  subst e
  cases r3
  refine wpAny_truthy_bool ?_
  cases k with
  | false =>
    obtain ⟨k', e', q'⟩ := q3
    cases e'
    exact ite_ff ⟨H3, I3, q'⟩
  | true =>
    refine ite_tt (test_link (thn (hc.run pins s3 σ H3 _ I3 q3) fun w s4 ⟨z', H4, I4, r4, q4⟩ => thn (ho' pins s4 σ H4 y z' u w _ I4 r2 r4 q4) fun d' s5 ⟨z2, H5, I5, r5, k2, e2, q5⟩ => ?_))
    subst e2
    cases r5
    refine wpAny_truthy_bool ?_
    cases k2 with
    | false =>
      obtain ⟨k', e', q'⟩ := q5
      cases e'
      exact ite_ff ⟨H5, I5, q'⟩
    | true =>
      refine ite_tt (test_last (thn (hd.run pins s5 σ H5 _ I5 q5) fun w' s6 ⟨z'', H6, I6, r6, q6⟩ => thn (ho'' pins s6 σ H6 z' z'' w w' _ I6 r4 r6 q6) fun d'' s7 ⟨z3, H7, I7, r7, k3, e3, q7⟩ => ?_))
      subst e3
      cases r7
      exact wpAny_truthy_bool ⟨H7, I7, q7⟩
def tChain4 (r r' r'' r3 : R2) (ta tb tc td te : TE) : TE := fun σ H Q => ta σ H fun x H1 => tb σ H1 fun y H2 => r x y H2 fun z H3 => ∃ k, z = .bl k ∧
  (if k = true then tc σ H3 fun w H4 => r' y w H4 fun z2 H5 => ∃ k2, z2 = .bl k2 ∧ (if k2 = true then td σ H5 fun u H6 => r'' w u H6 fun z3 H7 => ∃ k3, z3 = .bl k3 ∧ (if k3 = true then te σ H7 fun m H8 => r3 u m H8 Q else Q (.bl false) H7) else Q (.bl false) H5) else Q (.bl false) H3)
theorem pt_chain4 {e : Expr} {te : TE} {op op' op'' op3 : CmpOp} {r r' r'' r3 : R2} (ho : OpR X (compareOp op) r) (ho' : OpR X (compareOp op') r') (ho'' : OpR X (compareOp op'') r'') (ho3 : OpR X (compareOp op3) r3) (ha : PE X a ta) (hb : PE X b tb) (hc : PE X c tc) (hd : PE X d td) (he : PE X e te)
    (hm : lastMarks [op, op', op'', op3] [b, c, d, e] = false := by with_unfolding_all rfl) : PT X (.Compare a [op, op', op'', op3] [b, c, d, e] pos) (tTest (tChain4 r r' r'' r3 ta tb tc td te)) := by
  refine ⟨fun pins s σ H Q I h => ?_⟩
  refine isTrue_chain (thn (ha.run pins s σ H _ I h) fun v s1 ⟨x, H1, I1, r1, q1⟩ => test_link (thn (hb.run pins s1 σ H1 _ I1 q1) fun u s2 ⟨y, H2, I2, r2, q2⟩ =>
    thn (ho pins s2 σ H2 x y v u _ I2 r1 r2 q2) fun d s3 ⟨z, H3, I3, rr3, k, e, q3⟩ => ?_)) hm
  subst e
  cases rr3
  refine wpAny_truthy_bool ?_
  cases k with
  | false =>
    obtain ⟨k', e', q'⟩ := q3
    cases e'
    exact ite_ff ⟨H3, I3, q'⟩
  | true =>
    refine ite_tt (test_link (thn (hc.run pins s3 σ H3 _ I3 q3) fun w s4 ⟨z', H4, I4, r4, q4⟩ => thn (ho' pins s4 σ H4 y z' u w _ I4 r2 r4 q4) fun d' s5 ⟨z2, H5, I5, r5, k2, e2, q5⟩ => ?_))
    subst e2
    cases r5
    refine wpAny_truthy_bool ?_
    cases k2 with
    | false =>
      obtain ⟨k', e', q'⟩ := q5
      cases e'
      exact ite_ff ⟨H5, I5, q'⟩
    | true =>
      refine ite_tt (test_link (thn (hd.run pins s5 σ H5 _ I5 q5) fun w' s6 ⟨z'', H6, I6, r6, q6⟩ => thn (ho'' pins s6 σ H6 z' z'' w w' _ I6 r4 r6 q6) fun d'' s7 ⟨z3, H7, I7, r7, k3, e3, q7⟩ => ?_))
      subst e3
      cases r7
      refine wpAny_truthy_bool ?_
      cases k3 with
      | false =>
        obtain ⟨k', e', q'⟩ := q7
        cases e'
        exact ite_ff ⟨H7, I7, q'⟩
      | true =>
        refine ite_tt (test_last (thn (he.run pins s7 σ H7 _ I7 q7) fun w2 s8 ⟨z4, H8, I8, r8, q8⟩ => thn (ho3 pins s8 σ H8 z'' z4 w' w2 _ I8 r6 r8 q8) fun d3 s9 ⟨z5, H9, I9, r9, k4, e4, q9⟩ => ?_))
        subst e4
        cases r9
        exact wpAny_truthy_bool ⟨H9, I9, q9⟩
end
end L2
namespace DL
open PySem L2
section
variable {K : PySem.W.Frag} {es es' : List Sl} {ta tb tc td te : TE} {d : Dt}
theorem ev_chain3 {r r' r'' : R2} {a b c e : Dt} {x y z : Bool} (ha : Ev K ta es a) (hb : Ev K tb es b) (hr : R2D K r a b (.bl x)) (hc : Ev K tc es c) (hr' : R2D K r' b c (.bl y)) (hd : Ev K td es e) (hr'' : R2D K r'' c e (.bl z)) :
    Ev K (tChain3 r r' r'' ta tb tc td) es (.bl (x && (y && z))) := fun F G H σ s Q q =>
  ha F G H σ s _ fun v1 G1 H1 s1 g1 r1 => hb F G1 H1 σ s1 _ fun v2 G2 H2 s2 g2 r2 => hr F G2 H2 σ es v1 v2 s2 (r1.mono g2) r2 _ fun z1 G3 H3 s3 g3 r3 => by
    cases r3
    refine ⟨x, rfl, ?_⟩
    cases x with
    | false => exact q _ G3 H3 s3 (g1.trans (g2.trans g3)) (.bl _)
    | true =>
      show tc σ H3 _
      refine hc F G3 H3 σ s3 _ fun v4 G4 H4 s4 g4 r4 => hr' F G4 H4 σ es v2 v4 s4 ((r2.mono g3).mono g4) r4 _ fun z2 G5 H5 s5 g5 r5 => ?_
      cases r5
      refine ⟨y, rfl, ?_⟩
      have gg := g1.trans (g2.trans (g3.trans (g4.trans g5)))
      cases y with
      | false => exact q _ G5 H5 s5 gg (.bl _)
      | true =>
        show td σ H5 _
        exact hd F G5 H5 σ s5 _ fun v6 G6 H6 s6 g6 r6 => hr'' F G6 H6 σ es v4 v6 s6 ((r4.mono g5).mono g6) r6 Q fun v7 G7 H7 s7 g7 r7 => q v7 G7 H7 s7 (gg.trans (g6.trans g7)) r7
theorem ev_chain4 {r r' r'' r3 : R2} {tf : TE} {a b c e f : Dt} {x y z u : Bool} (ha : Ev K ta es a) (hb : Ev K tb es b) (hr : R2D K r a b (.bl x)) (hc : Ev K tc es c) (hr' : R2D K r' b c (.bl y)) (hd : Ev K td es e) (hr'' : R2D K r'' c e (.bl z)) (hf : Ev K tf es f) (hr3 : R2D K r3 e f (.bl u)) :
    Ev K (tChain4 r r' r'' r3 ta tb tc td tf) es (.bl (x && (y && (z && u)))) := fun F G H σ s Q q =>
  ha F G H σ s _ fun v1 G1 H1 s1 g1 r1 => hb F G1 H1 σ s1 _ fun v2 G2 H2 s2 g2 r2 => hr F G2 H2 σ es v1 v2 s2 (r1.mono g2) r2 _ fun z1 G3 H3 s3 g3 r3 => by
    cases r3
    refine ⟨x, rfl, ?_⟩
    cases x with
    | false => exact q _ G3 H3 s3 (g1.trans (g2.trans g3)) (.bl _)
    | true =>
      show tc σ H3 _
      refine hc F G3 H3 σ s3 _ fun v4 G4 H4 s4 g4 r4 => hr' F G4 H4 σ es v2 v4 s4 ((r2.mono g3).mono g4) r4 _ fun z2 G5 H5 s5 g5 r5 => ?_
      cases r5
      refine ⟨y, rfl, ?_⟩
      have gg := g1.trans (g2.trans (g3.trans (g4.trans g5)))
      cases y with
      | false => exact q _ G5 H5 s5 gg (.bl _)
      | true =>
        show td σ H5 _
        refine hd F G5 H5 σ s5 _ fun v6 G6 H6 s6 g6 r6 => hr'' F G6 H6 σ es v4 v6 s6 ((r4.mono g5).mono g6) r6 _ fun v7 G7 H7 s7 g7 r7 => ?_
        cases r7
        refine ⟨z, rfl, ?_⟩
        have g3 := gg.trans (g6.trans g7)
        cases z with
        | false => exact q _ G7 H7 s7 g3 (.bl _)
        | true =>
          show tf σ H7 _
          exact hf F G7 H7 σ s7 _ fun v8 G8 H8 s8 g8 r8 => hr3 F G8 H8 σ es v6 v8 s8 ((r6.mono g7).mono g8) r8 Q fun v9 G9 H9 s9 g9 r9 => q v9 G9 H9 s9 (g3.trans (g8.trans g9)) r9
/-! slots set aside -/
def hideS (es : List Sl) : List Sl := es.map fun s => match s.isOwn with
  | true => .un
  | false => s
theorem Stt.hide {F G H : Hp} {σ : L2.St} (s : Stt K F G H σ es) : Stt K (DL.rem G H) G H σ (hideS es) where
  f := s.rem.1
  g := s.g
  dj := s.rem.2
  len := by unfold hideS; rw [List.length_map]; exact s.len
  sl := fun i t e => by
    unfold hideS at e
    rw [List.getElem?_map] at e
    cases q : es[i]? with
    | none => rw [q] at e; cases e
    | some u =>
      rw [q] at e
      cases e
      obtain ⟨x, hx, k⟩ := s.sl i u q
      refine ⟨x, hx, ?_⟩
      cases u with
      | un => trivial
      | d y => exact k
      | own _ _ => trivial
      | obo _ _ _ => trivial
      | prv _ => trivial
  sp := sp_of s.sp fun j t x a ej hj h => by
    unfold hideS at ej
    rw [List.getElem?_map] at ej
    cases q : es[j]? with
    | none => rw [q] at ej; cases ej
    | some u =>
      rw [q] at ej
      cases ej
      cases u <;> exact h.elim
theorem ev_hide (e : hideS es = es') (h : Ev K te es' d) : Ev K te es d := by
  subst e
  exact fun F G H σ s Q q => h (DL.rem G H) G H σ s.hide Q fun v G1 H1 s1 g1 r1 => q v G1 H1 (s.after s1.f s1.g s1.dj g1) g1 r1
theorem Stt.afterL {F G H G1 H1 : Hp} {σ : L2.St} (s : Stt K F G H σ es) {p : Addr} {vs : List V} (sf : Same (upd (DL.rem G H) p (.lst vs)) H1) (sg : Same G1 H1) (sd : ∀ a o, upd (DL.rem G H) p (.lst vs) a = some o → G1 a = none) (hp : DL.rem G H p = none) (g1 : Same G G1) :
    Stt K (upd F p (.lst vs)) G1 H1 σ es ∧ F p = none := by
  have up : ∀ a o, F a = some o → DL.rem G H a = some o := fun a o e => by rw [rem_of (s.dj a o e)]; exact s.f a o e
  have ne : ∀ a o, DL.rem G H a = some o → a ≠ p := fun a o e z => by subst z; rw [hp] at e; cases e
  have fp : F p = none := not_some fun o e => by
    have := up p o e
    rw [hp] at this
    cases this
  have gp : G1 p = none := sd p _ upd_same
  refine ⟨⟨fun a u e => ?_, sg, fun a u e => ?_, s.len, fun i t e => ?_, s.sp⟩, fp⟩
  · by_cases z : a = p
    · subst z
      rw [upd_same] at e
      exact sf a u (by rw [upd_same]; exact e)
    · rw [upd_ne z] at e
      exact sf a u (by rw [upd_ne z]; exact up a u e)
  · by_cases z : a = p
    · subst z
      exact gp
    · rw [upd_ne z] at e
      exact sd a u (by rw [upd_ne z]; exact up a u e)
  · obtain ⟨x, hx, k⟩ := s.sl i t e
    refine ⟨x, hx, k.grow g1 (fun q u hg _ hu => ?_) fun q hg ⟨u, hu⟩ hf => ?_⟩
    · have hq : DL.rem G H q = some u := by rw [rem_of hg]; exact hu
      exact sf q u (by rw [upd_ne (ne q u hq)]; exact hq)
    · have hq : DL.rem G H q = some u := by rw [rem_of hg]; exact hu
      exact ⟨sd q u (by rw [upd_ne (ne q u hq)]; exact hq), by rw [upd_ne (ne q u hq)]; exact hf⟩
theorem el_hide {ds : List Dt} (e : hideS es = es') (h : EvL K te es' ds) : EvL K te es ds := by
  subst e
  refine fun F G H σ s Q q => h (DL.rem G H) G H σ s.hide Q fun p vs G1 H1 s1 hp g1 r1 => ?_
  obtain ⟨a, b⟩ := s.afterL s1.f s1.g s1.dj hp g1
  exact q p vs G1 H1 a b g1 r1
/-! ranges downward -/
def rngD (lo hi : Int) : List Int := (List.range (lo - hi).toNat).map fun (i : Nat) => lo - (i : Int)
def rngDC (lo hi : Int) : Option (List Int) := if -(2 ^ 62) ≤ lo ∧ lo < 2 ^ 62 ∧ -(2 ^ 62) ≤ hi ∧ hi < 2 ^ 62 then some (rngD lo hi) else none
theorem yields_rngD {G : Hp} {lo : Int} {n : Nat} : Yields K (Itc lo (-1) n) G (((List.range n).map fun (i : Nat) => lo - (i : Int)).map Dt.int) := fun i F G1 H1 σ es g s => by
  refine ⟨fun d e => ?_, fun e => by rw [List.length_map, List.length_map, List.length_range] at e; exact e⟩
  rw [List.getElem?_map, List.getElem?_map] at e
  by_cases hi : i < n
  · rw [List.getElem?_range hi] at e
    cases e
    refine ⟨hi, fun x H2 y => ?_⟩
    obtain ⟨e1, e2⟩ := y
    subst e1 e2
    have : lo + (i : Int) * (-1) = lo - (i : Int) := by omega
    rw [this]
    exact ⟨G1, s, Same.refl _, .int _⟩
  · rw [List.getElem?_eq_none (by simpa using hi)] at e
    cases e
theorem ei_rngD {ta : TA} {lo hi : Int} {xs : List Int} (h : EvA K ta es [.int lo, .int hi, .int (-1)]) (e : rngDC lo hi = some xs) : EvI K (iRng3 ta) es (xs.map Dt.int) := fun F G H σ s R q => h F G H σ s _ fun vs G1 H1 s1 g1 r1 => by
  obtain ⟨⟨a1, a2, a3, a4⟩, e⟩ := ite_some e
  subst e
  cases r1 with
  | cons ra rr =>
    cases ra
    cases rr with
    | cons rb rr =>
      cases rb
      cases rr with
      | cons rc rr =>
        cases rc
        cases rr
        exact ⟨lo, hi, -1, _, rfl, RgC.neg a1 a2 a3 a4, q _ G1 H1 s1 g1 yields_rngD⟩
/-! tuple + tuple -/
theorem ev_catT {d1 d2 : List Dt} (ha : Ev K ta es (.tup d1)) (hb : Ev K tb es (.tup d2)) (hz : d1.length + d2.length ≤ 10000000) : Ev K (tOp (rCatA K) ta tb) es (.tup (d1 ++ d2)) := fun F G H σ s Q q =>
  ha F G H σ s _ fun x G1 H1 s1 g1 r1 => hb F G1 H1 σ s1 _ fun y G2 H2 s2 g2 r2 => by
    cases r1 with
    | tup h1 q1 =>
      cases r2 with
      | tup h2 q2 =>
        have q1 := q1.mono g2
        refine ⟨_, _, _, _, rfl, rfl, sqT_mono s2.g (sqT_mono g2 h1), sqT_mono s2.g h2, ?_, fun e => ?_, fun _ e => ?_, fun _ _ p hp => ?_⟩
        · rw [q1.length, q2.length]
          exact Nat.le_trans hz (by decide)
        · subst e
          cases q1
          exact q _ G2 H2 s2 (g1.trans g2) (.tup h2 q2)
        · subst e
          cases q2
          refine q _ G2 H2 s2 (g1.trans g2) ?_
          rw [List.append_nil]
          exact .tup (sqT_mono g2 h1) q1
        · have hg := s2.gnone hp
          exact q _ _ _ (s2.new hp) (g1.trans (g2.trans (same_upd hg))) (.tup (.inl (.inl upd_same)) ((q1.append q2).mono (same_upd hg)))
theorem ev_catTm {α : Type} {em : α → Dt} {xs ys zs : List α} (ha : Ev K ta es (.tup (xs.map em))) (hb : Ev K tb es (.tup (ys.map em))) (h : catC xs ys = some zs) : Ev K (tOp (rCatA K) ta tb) es (.tup (zs.map em)) := by
  unfold catC at h
  split at h
  · rename_i hz
    cases h
    rw [List.map_append]
    exact ev_catT ha hb (by rw [List.length_map, List.length_map]; exact hz)
  · cases h
end
section
variable {K : PySem.W.Frag} {es : List Sl} {ta tk : TA} {E : XK}
/-- f(.., k = v, ..) -/
theorem ev_callK {P : List Dt → Dt → Prop} {d : Dt} {n m : Nat} {fV : List V → List V → List V} {ds ks ds' : List Dt} (ha : EvA K ta es ds) (hk : EvA K tk es ks) (hn : ds.length = n) (hm : ks.length = m)
    (hf : ∀ G vs zs, Reps K G vs ds → Reps K G zs ks → Reps K G (fV vs zs) ds') (hP : P ds' d) : Ev K (tCallN n m (FSpec K (RD P)) fV E ta tk) es d := fun F G H σ s Q q => by
  have h2 := ev_call (E := E) (ea_perm ha hk hn hm hf) hP F G H σ s Q q
  have e : tCall (FSpec K (RD P)) [] E (tPermA n m fV ta tk) σ H Q = tCallN n m (FSpec K (RD P)) fV E ta tk σ H Q := by
    unfold tCall tCallN tPermA
    refine congrArg (ta σ H) (funext fun vs => funext fun H1 => congrArg (tk σ H1) (funext fun zs => funext fun H2 => ?_))
    show (_ ∧ _ ∧ FSpec K (RD P) (fV vs zs ++ []) H2 Q E) = _
    rw [List.append_nil]
  exact e ▸ h2
end
/-! defs that hand back a new list -/
section
variable {K : PySem.W.Frag} {es fs : List Sl} {te : TE} {tz : TS} {ds : List Dt}
theorem sev_rtL (h : EvL K te es ds) (w : Wk es fs) : SEv K (tSeq (tRet te) tz) es (.rl ds fs) := fun F G H σ D s q => h F G H σ s _ fun p vs G1 H1 s1 hF g1 r1 => q p vs G1 H1 σ (s1.wk w) hF g1 r1
theorem Stt.leave {F G H : Hp} {σ : L2.St} {i : Nat} {p : Addr} {vs : List V} {t : Sl} (s : Stt K F G H σ es) (hi : es[i]? = some t) (ht : t.isOwn = true) (ho : σ[i]? = some (some (.ref p))) (hp : H p = some (.lst vs)) (gp : G p = none) : Stt K (upd F p (.lst vs)) G H σ (es.set i .un) where
  f := fun a u e => by
    by_cases z : a = p
    · subst z
      rw [upd_same] at e
      exact hp.trans e
    · rw [upd_ne z] at e
      exact s.f a u e
  g := s.g
  dj := fun a u e => by
    by_cases z : a = p
    · subst z
      exact gp
    · rw [upd_ne z] at e
      exact s.dj a u e
  len := by rw [List.length_set]; exact s.len
  sl := fun j u e => by
    by_cases q : i = j
    · subst q
      have hj : i < es.length := (List.getElem?_eq_some_iff.mp hi).1
      rw [List.getElem?_set_self hj] at e
      cases e
      exact ⟨_, ho, trivial⟩
    · rw [List.getElem?_set_ne q] at e
      obtain ⟨x, hx, k⟩ := s.sl j u e
      refine ⟨x, hx, k.tr (Same.refl _) fun a m g f => ⟨g, ?_, fun w hw => hw⟩⟩
      rw [upd_ne (s.apart q hi ht ho e hx a m)]
      exact f
  sp := sp_setE s.sp has_un
theorem sev_rtO {i : Nat} {a : Option Addr} (hi : es[i]? = some (.own a ds)) (w : Wk (es.set i .un) fs) : SEv K (tSeq (tRet (tVar i)) tz) es (.rl ds fs) := fun F G H σ D s q => by
  obtain ⟨o, ho, p, vs, eo, g, f, hp, rr, an⟩ := s.sl i _ hi
  subst eo
  exact ⟨.ref p, ho, q p vs G H σ ((s.leave hi rfl ho hp g).wk w) f (Same.refl _) rr⟩
/-- all arguments data, a new list handed back -/
def FSpecL (K : PySem.W.Frag) (R : List Dt → List Dt → Prop) : Sp := fun vs H Q _ => ∃ F G ds xs, Stt K F G H (vs.map some) (ds.map .d) ∧ R ds xs ∧
  ∀ p ws G' H', Stt K (upd F p (.lst ws)) G' H' (vs.map some) (ds.map .d) → F p = none → Same G G' → Reps K G' ws xs → Q (.ref p) H'
theorem fn_L {P : Program} {w : World} {mg : Str → Option Value} {base : Heap} {x qual : Str} {st : Stmt} {f : Addr} {fd : FuncData} {N ps : List Str} {k : Nat} {R : List Dt → List Dt → Prop} (F : Fun K x qual st f fd) (S : FnScope N ps (defScope st)) (hl : ∀ ds d, R ds d → ds.length = ps.length)
    (body : ∀ (cdv : Value) (A : Around) (outer : List Env) (s : Shared) (H : Hp) (E : XK), Room k (A.deeper (PyProof.Rows.envOfC qual (defScope st) s.heap.objs.size f cdv)) →
      ∃ t, PSs (cxOf CX0 P w K mg base N qual (defScope st) f cdv A outer s H E).nox (defBody st) t ∧ ∀ ds xs, R ds xs → ∃ es, SEv K t (ds.map .d ++ List.replicate (N.length - ps.length) .un) (.rl xs es)) :
    FnOk P w K mg base CX0 (k + 1) f fd ps (FSpecL K R) := by
  refine F.ok S (fun vs H Q E h => ?_) (fun cdv A outer s H vs Q E hr h => ?_)
  · obtain ⟨F, G, ds, xs, s, hR, _⟩ := h
    have := s.len
    rw [List.length_map, List.length_map, hl ds xs hR] at this
    exact this
  · obtain ⟨t, ht, hb⟩ := body cdv A outer s H E hr
    refine ⟨t, ht, ?_⟩
    obtain ⟨F1, G, ds, xs, st1, hR, q⟩ := h
    obtain ⟨es, hs⟩ := hb ds xs hR
    refine hs F1 G H _ _ (stt_start st1 (by rw [List.length_map, hl ds xs hR])) (fun p ws G' H' σ' s' hf g r => ?_)
    have rs : Reps K G vs ds := data_of (vs := vs) (ds := ds) (K := K) (F := F1) (G := G) (H := H) (by have := st1.len; simpa using this) st1.sl
    exact q p ws G' H' (stt_data s'.f s'.g s'.dj (rs.mono g)) hf g r
theorem el_call {ta : TA} {E : XK} {ds xs : List Dt} {P : List Dt → List Dt → Prop} (ha : EvA K ta es ds) (hP : P ds xs) : EvL K (tCall (FSpecL K P) [] E ta) es xs := fun F G H σ s Q q =>
  ha F G H σ s _ fun vs G1 H1 s1 g1 r1 => by
    show FSpecL K P (vs ++ []) H1 Q E
    rw [List.append_nil]
    refine ⟨DL.rem G1 H1, G1, ds, xs, stt_data s1.rem.1 s1.g s1.rem.2 r1, hP, fun p ws G2 H2 s2 hf g2 r2 => ?_⟩
    obtain ⟨a, b⟩ := s1.afterL s2.f s2.g s2.dj hf g2
    exact q p ws G2 H2 a b (g1.trans g2) r2
end
/-- of nothing -/
abbrev dE (x : Empty) : Dt := nomatch x
open PyProof.Rows in
/-- a def with defaults, as it stands -/
theorem fund_mkP {K : PySem.W.Frag} {x qual : Str} {st : Stmt} {f T : Addr} {oc tc : Value} {od td an : Option Addr} {osl tsl : Array (Option Value)} {kV doc pm cdv ct : Value} {its : Array Value} {n : Nat} {items : List Value} {dvs : List V}
    (l : K.lookup f = some ⟨oc, od, .func (PySem.W.fnOf x qual (defArgs st) (defBody st) (defScope st) (.ref T) kV doc pm an cdv ct), osl⟩)
    (c : PySem.W.codeIn K cdv qual = true) (k : PySem.W.keepIn K (.ref f) = true) (lt : K.lookup T = some ⟨tc, td, .seq its n, tsl⟩) (e : its = items.toArray) (r : Vals dvs items) (hne : dvs ≠ []) :
    FunD K x qual (defArgs st) (defBody st) (defScope st) dvs [] f (PySem.W.fnOf x qual (defArgs st) (defBody st) (defScope st) (.ref T) kV doc pm an cdv ct) :=
  ⟨⟨oc, od, .ref T, kV, doc, pm, an, cdv, ct, osl, rfl, l, c, .inr ⟨hne, T, _, items, n, rfl, lt, by subst e; rfl, r⟩, .inl rfl⟩, k⟩
end DL

/-! Dl10: own exceptions whose __init__ says super().__init__(f'invalid {field}'); self.field = field -/
namespace PySem
namespace DLX
open PySem.W PySem.Calls PyProof.Rows PySem.HandSPX
def iA (p1 p2 : Pos) : Arguments := { posonlyargs := [], args := [{ arg := "self", annotation := none, pos := p1 }, { arg := "field", annotation := none, pos := p2 }], vararg := none, kwonlyargs := [], kw_defaults := [], kwarg := none, defaults := [] }
def iP (pre : Bool) (q4 q5 q6 : Pos) : List Expr := match pre with
  | true => [.Constant (.str "invalid ") 0 q4, .FormattedValue (.Name "field" q5) (-1) none q6]
  | false => [.FormattedValue (.Name "field" q5) (-1) none q6, .Constant (.str " out of range") 0 q4]
def iB (pre : Bool) (q1 q2 q3 q4 q5 q6 q7 q8 q9 r1 r2 r3 r4 : Pos) : List Stmt := [.Expr (.Call (.Attribute (.Call (.Name "super" q1) [] [] q2) "__init__" q3) [.JoinedStr (iP pre q4 q5 q6) q7] [] q8) q9, .Assign [.Attribute (.Name "self" r1) "field" r2] (.Name "field" r3) r4]
def iS : Scope := { kind := .function, names := [(PySem.Str.ofString "self", .local), (PySem.Str.ofString "field", .local), (PySem.Str.ofString "__class__", .free), (PySem.Str.ofString "super", .globalImplicit)], isGenerator := false, isCoroutine := false, more := [] }
/-- what the written part says of such a class, at C, and of its __init__, at fI -/
structure ExcT (P : Program) (K : Frag) (mg : Str → Option Value) (nm : Str) (C fI : Addr) : Prop where
  gC : mg nm = some (.ref C)
  cls : ∃ n' q N bs bm sn sub ab col dd k0 k1 k2 k3 k5, K.lookup C = some (excClassObj n' q C N bs bm true sn sub ab col dd k0 k1 k2 k3 k5 "ValueError.__new__") ∧ refsVE bm = true
  sa : findIn K (.ref C) "__setattr__" = some (some (.builtin "object.__setattr__"))
  ga : findIn K (.ref C) "__getattribute__" = some (some (.builtin "BaseException.__getattribute__"))
  gg : findIn K (.ref C) "__getattr__" = some none
  noN : findIn K (.ref C) "field" = some none
  iC : findIn K (.ref C) "__init__" = some (some (.ref fI))
  tC : typeIn K (.ref fI) = some (.type "function")
  kC : keepIn K (.ref C) = true
  exC : subIn K (.ref C) (.type "BaseException") = some true
  veC : subIn K (.ref C) (.type "ValueError") = some true
  tyC : typeIn K (.ref C) = some (.type "type")
  hdC : hasDictIn K C = true
  mro : mroIn K C (.ref C) = some true
  sup : ks_superIn K C C "__init__" = some (some (.builtin "ValueError.__init__"))
  noS : mg "super" = none
  tp : nsIn K cStatics "thirdparty.any" = some none
  top : (P.main.scope.names.lookup ("super" : Str)).isSome = false
  fn : ∃ (oc : Value) (od : Option Addr) (qn : Str) (doc pm : Value) (an : Option Addr) (cda cc : Addr) (ct : Value) (osl : Array (Option Value)) (pre : Bool) (p1 p2 q1 q2 q3 q4 q5 q6 q7 q8 q9 r1 r2 r3 r4 : Pos),
    K.lookup fI = some ⟨oc, od, .func (ksFn "__init__" qn (iA p1 p2) (iB pre q1 q2 q3 q4 q5 q6 q7 q8 q9 r1 r2 r3 r4) iS .none .none doc pm an (.ref cda) ct cc), osl⟩ ∧ codeIn K (.ref cda) qn = true ∧
    (q3.endLine == q8.line) = true ∧ (∃ (ccl : Value) (cdd : Option Addr) (vs : Array Value) (ccs : Array (Option Value)) (file : Str) (tf : Tok), K.lookup cda = some ⟨ccl, cdd, .fields vs, ccs⟩ ∧ vs[2]? = some (.str file tf) ∧ ((P.main.file : Str) == file) = true) ∧
    ∃ (cl : Value) (cld : Option Addr) (csl : Array (Option Value)), K.lookup cc = some ⟨cl, cld, .cell (some (.ref C)), csl⟩
/-- what __init__ leaves of a fresh exception at x -/
structure InitEnd (h h' : Heap) (x C dx t1 : Addr) (v : Value) : Prop where
  keep : ∀ b o, b ≠ x → h.get? b = some o → h'.get? b = some o
  obj : h'.get? x = some { cls := .ref C, dict := some dx, data := .fields #[.ref t1, .none, .none, .none, .bool false, .none] }
  dbig : h.objs.size ≤ dx
  dne : dx ≠ x
  ns : h'.Ns1 dx (fun y => if y = "field" then some v else none)
/-- a made one -/
structure OwnMade (h h' : Heap) (e C d : Addr) (v : Value) : Prop where
  keep : ∀ b o, h.get? b = some o → h'.get? b = some o
  new : h.objs.size ≤ e
  obj : ∃ oe vs, h'.get? e = some oe ∧ oe.cls = .ref C ∧ oe.dict = some d ∧ oe.data = .fields vs ∧ vs[1]? = some .none
  dbig : h.objs.size ≤ d
  dne : d ≠ e
  ns : h'.Ns1 d (fun y => if y = "field" then some v else none)
theorem meth_line {o : Expr} {name : Str} {apos pos : Pos} {a : Expr} {env : Env} (h : (apos.endLine == pos.line) = true) (hf : methodCallForm 1 (backTo pos (starEach [a] env)) [] = true := by rfl) : eval (.Call (.Attribute o name apos) [a] [] pos) env = (do
      let ov ← attributeBase o name env (eval o env)
      standAt apos.atName
      let (f, first) ← holding [ov] (getMethod ov name (do return (← importBound o env).getD true))
      callWith pos f first (backTo pos (starEach [a] env)) []) := by
  have e : ∀ (ov : Value) (as : List (Bool × Sem Value)), methodCallForm 1 as [] = true → methodCall o name apos pos env ov 1 as [] = (do
      let (f, first) ← holding [ov] (getMethod ov name (do return (← importBound o env).getD true))
      callWith pos f first as []) := fun ov as hf => by
    unfold methodCall methodCallPos calleeOf
    simp only [hf, h, Bool.not_true, Bool.false_or, if_true, pure_bind]
  show (do
    let ov ← attributeBase o name env (eval o env)
    standAt apos.atName
    methodCall o name apos pos env ov 1 (backTo pos (starEach [a] env)) []) = _
  simp only [e _ _ hf]
theorem one_size (v : Value) : [v].length ≤ sizeLine := by
  rw [sizeLine_eq]
  exact (by decide : 1 ≤ 16777216)
/-- super().__init__ bound to x, called -/
theorem call_mw {prog : Program} {w : World} {A : Around} {E : Value → Shared → Prop} {h : Heap} {g : Array GenState} {d : Drawn} {t : Nat} {os : OsState} {u x C t0 : Addr} {rest : List Value} {Q : Value → Shared → Prop} {n' q : Str} {N : Addr} {bs bm : List Value} {sn : List Str} {sub : List Value} {ab : Bool} {col : Option Bool} {dd : Option Addr} {k0 k1 k2 k3 k5 : Option Value}
    (hC : h.get? C = some (excClassObj n' q C N bs bm true sn sub ab col dd k0 k1 k2 k3 k5 "ValueError.__new__")) (he : h.get? x = some (excO C t0)) (hu : h.get? u = some (kxs_mw "ValueError.__init__" x)) (hz : rest.length ≤ sizeLine)
    (hq : ∀ h' t1, (∀ b o, b ≠ x → h.get? b = some o → h'.get? b = some o) → h'.get? x = some (excO C t1) → Q .none ⟨h', g, d, t, os⟩) :
    wpAny (model prog w) A (call (.ref u) rest) Q E ⟨h, g, d, t, os⟩ := by
  have FB := F.excBase_ValueError
  refine wpAny_call (codeAny_of_tree ?_)
  show wpAny _ A.in1 (callAny (.ref u) ⟨rest, []⟩) _ _ _
  simp only [callAny]
  refine wpAny_bind (wpAny_load hu ?_)
  simp only [kxs_mw, show (Value.type "method-wrapper" == Value.type "method" || Value.type "method-wrapper" == Value.type "builtin_function_or_method" || Value.type "method-wrapper" == Value.type "method-wrapper") = true by decide, if_true]
  refine KFB.if_so (by decide) ?_
  refine wpAny_bind (check_bound_init FB.toExcCallFacts hC he rfl ?_)
  refine wpAny_bind (wpAny_pure (wpAny_pure ?_))
  refine ⟨plainId_quiet FB.init.plain _, codeAny_builtin FB.initEntry ?_⟩
  exact exc_init_tree (cls := .ref C) (t0 := t0) (dv := none) (c2 := .none) (c3 := .none) (b4 := .bool false) he hz fun h' k e' _ => hq h' h.objs.size k e'
/-- the text that super().__init__ is given -/
theorem joined_ok {M : Model} {A : Around} {E : Value → Shared → Prop} {s : Shared} {env : Env} {m : Str → Option Value} {f : Str} {tk0 : Tok} {pre : Bool} {q4 q5 q6 q7 : Pos} {Q : Value → Shared → Prop} (hn : s.heap.Ns env.locals m) (hv : m "field" = some (.str f tk0)) (hs : f.length ≤ 1000) (hk : env.scope.kind = .function) (hl : env.kindOf "field" = some .local)
    (h : ∀ v tk, Q v { s with toks := tk }) : wpAny M A (eval (.JoinedStr (iP pre q4 q5 q6) q7) env) Q E s := by
  have z0 : f.length ≤ sizeLine := by
    rw [sizeLine_eq]
    omega
  cases pre with
  | true =>
    have z1 : ((Str.empty : Str) ++ ("invalid " : Str)).length ≤ sizeLine := by
      rw [sizeLine_eq]
      decide
    have z2 : (((Str.empty : Str) ++ ("invalid " : Str)) ++ f).length ≤ sizeLine := by
      have h8 : ((Str.empty : Str) ++ ("invalid " : Str)).length ≤ 8 := by decide
      rw [sizeLine_eq, strLen_append]
      exact Nat.le_trans (Nat.add_le_add h8 hs) (by decide)
    refine JoinedStr_many (pos := q7) (joinParts_cons (Constant_str ⟨z1, joinParts_cons (FormattedValue_plain ?_)⟩))
    refine wpAny_Name (wpAny_loadName_local hk hl hn hv ?_) (by decide)
    exact formatField_str (fun t' tk => ⟨z2, joinParts_nil (h _ _) z2⟩) z0
  | false =>
    have z1 : ((Str.empty : Str) ++ f).length ≤ sizeLine := by
      have h8 : (Str.empty : Str).length ≤ 0 := by decide
      rw [sizeLine_eq, strLen_append]
      exact Nat.le_trans (Nat.add_le_add h8 hs) (by decide)
    have z2 : (((Str.empty : Str) ++ f) ++ (" out of range" : Str)).length ≤ sizeLine := by
      have h8 : (Str.empty : Str).length ≤ 0 := by decide
      have h9 : (" out of range" : Str).length ≤ 20 := by decide
      rw [sizeLine_eq, strLen_append, strLen_append]
      exact Nat.le_trans (Nat.add_le_add (Nat.add_le_add h8 hs) h9) (by decide)
    refine JoinedStr_many (pos := q7) (joinParts_cons (FormattedValue_plain ?_))
    refine wpAny_Name (wpAny_loadName_local hk hl hn hv ?_) (by decide)
    exact formatField_str (fun t' tk => ⟨z1, joinParts_cons (Constant_str ⟨z2, joinParts_nil (h _ _) z2⟩)⟩) z0
section
variable {prog : Program} {w : World} {A : Around} {E : Value → Shared → Prop} {R : Result → Shared → Prop} {s : Shared} {base : Heap} {K : Frag} {mg : Str → Option Value} {C fI : Addr} {nm : Str}
theorem exc_init (T : ExcT prog K mg nm C fI) {x t0 : Addr} {f : Str} {tk0 : Tok} (hs : f.length ≤ 1000) (MD : L2.Mod K mg base) (kb : ∀ b o, base.get? b = some o → s.heap.get? b = some o) (hx : s.heap.get? x = some (excO C t0)) (hnx : base.get? x = none) (hroom : A.depth < recursionLimit)
    (hq : ∀ h' tk dx t1, InitEnd s.heap h' x C dx t1 (.str f tk0) → R (.ok (.ret .none)) { s with heap := h', toks := tk }) :
    codeAny (model prog w) A (.call (.ref fI) ⟨[.ref x, .str f tk0], []⟩) R s := by
  obtain ⟨oc, od, qn, doc, pm, an, cda, cc, ct, osl, pre, p1, p2, q1, q2, q3, q4, q5, q6, q7, q8, q9, r1, r2, r3, r4, ho, hcd, hpos, ⟨ccl, cdd, vs, ccs, file, tf, hcda, hvs, hfile⟩, cl, cld, csl, hcc⟩ := T.fn
  obtain ⟨n', q, N, bs, bm, sn, sub, ab, col, dd, k0, k1, k2, k3, k5, hC, hbm⟩ := T.cls
  have X : K.In s.heap := MD.kin.keeps kb
  have hcl : clsIn K C = some { name := n', bases := bs, mro := .ref C :: bm, ns := N, qualname := q, hasDict := true, slotNames := sn, subclasses := sub, abstract := ab, collection := col, hasDel := false } := by unfold clsIn; rw [hC] <;> rfl
  obtain ⟨cdD, hcD⟩ : ∃ cd, clsIn K C = some cd := ⟨_, hcl⟩
  refine ks_codeAny_call_defAt (fd := ksFn "__init__" qn (iA p1 p2) (iB pre q1 q2 q3 q4 q5 q6 q7 q8 q9 r1 r2 r3 r4) iS .none .none doc pm an (.ref cda) ct cc) (body := iB pre q1 q2 q3 q4 q5 q6 q7 q8 q9 r1 r2 r3 r4) (binds := [("self", .ref x), ("field", .str f tk0)]) hroom (X _ _ ho) rfl
    (MD.nolimit.keeps kb) (codeRec_of X hcd) rfl (BindsTo.of_eq (by first | rfl | with_unfolding_all rfl)) (by show ∀ y ∈ iS.names, y.2 ≠ NameKind.cell; decide) (fun y hy => ?_) (fun h₁ hns k₁ => ?_) rfl rfl rfl
  · rcases List.mem_cons.mp hy with rfl | hy
    · rfl
    · rcases List.mem_cons.mp hy with rfl | hy
      · rfl
      · cases hy
  have X₁ : K.In h₁ := X.keeps k₁
  have kb₁ : ∀ b o, base.get? b = some o → h₁.get? b = some o := fun b o e => k₁ b o (kb b o e)
  have hx₁ := k₁ _ _ hx
  generalize hL : s.heap.objs.size = L at *
  have I₁ : InstAt h₁ x (excO C t0) C none := ⟨hx₁, rfl, rfl, trivial⟩
  show _root_.PySem.wpAt (model prog w) (A.deeper (ksEnv qn iS L fI (.ref cda) cc)) (.func (iB pre q1 q2 q3 q4 q5 q6 q7 q8 q9 r1 r2 r3 r4) (ksEnv qn iS L fI (.ref cda) cc)) (execs (iB pre q1 q2 q3 q4 q5 q6 q7 q8 q9 r1 r2 r3 r4) (ksEnv qn iS L fI (.ref cda) cc)) _ _ _
  obtain ⟨mb, hmb, hmbe⟩ := MD.blt
  obtain ⟨oD, hD1, hD2⟩ : ∃ oD, h₁.get? C = some oD ∧ oD.data = .cls cdD := by
    unfold clsIn at hcD
    split at hcD
    · rename_i c d cd' sl ho'
      cases hcD
      exact ⟨_, X₁ _ _ ho', rfl⟩
    · cases hcD
  unfold iB
  refine ks_wpAt_execs_cons ?_
  refine ks_wpAt_Expr_any ?_
  refine ks_wpAt_MethodCall (he := meth_line hpos) ?_
  refine ks_wpAt_super_base (env := ksEnv qn iS L fI (.ref cda) cc) rfl rfl (by decide) rfl (X₁ _ _ ho) rfl rfl rfl (X₁ _ _ hcda) rfl hvs hfile T.top ?_
  refine ks_loadName_global rfl rfl (loadGlobal_builtin (env := ksEnv qn iS L fI (.ref cda) cc) (MD.glob.keeps kb₁) T.noS (hmb.keeps kb₁) ((hmbe "super" (by decide)).trans (b := bootBuiltins "super") (c := some (.type "super")) (by decide +kernel)) ⟨rfl, ?_⟩)
  refine wpAny_loadName_free rfl rfl rfl ⟨_, X₁ _ _ hcc, rfl⟩ ?_
  refine wpAny_loadName_local rfl rfl hns (v := .ref x) rfl ?_
  refine ks_wpAny_isType_cls hD1 hD2 ⟨rfl, ?_⟩
  refine ks_wpAny_call_super hD1 hD2 hx₁ rfl (fun c e => by cases e) (looks_mroIn X₁ T.mro) (fun h₂ e₂ k₂ => ?_)
  generalize hso : h₁.objs.size = so at *
  have X₂ : K.In h₂ := X₁.keeps k₂
  have hx₂ := k₂ _ _ hx₁
  have I₂ : InstAt h₂ x (excO C t0) C none := ⟨hx₂, rfl, rfl, trivial⟩
  have hsup := T.sup
  unfold ks_superIn at hsup
  rw [hcl] at hsup
  refine kxs_getMethod kxs_ValueError e₂ (looks_opaque X₂ T.tp) (l₀ := Value.ref C :: bm) (fun A Q E s k q => wpAny_bind ((looks_clsIn X₂ hcl) A _ E s k (wpAny_pure q))) rfl X₂ hsup (I₂.type.andThen (looks_subIn X₂ T.veC)) (ks_ne X₂ I₂ hcl) (by decide) ?_
  have k₃ : ∀ b o, h₂.get? b = some o → (h₂.push (kxs_mw "ValueError.__init__" x)).get? b = some o := fun b o e => Heap.get?_push_of_some _ e
  have hm₃ : (h₂.push (kxs_mw "ValueError.__init__" x)).get? h₂.objs.size = some (kxs_mw "ValueError.__init__" x) := Heap.get?_push_at rfl rfl
  generalize hu : h₂.objs.size = u at *
  generalize h₂.push (kxs_mw "ValueError.__init__" x) = h₃ at *
  have X₃ : K.In h₃ := X₂.keeps k₃
  have hx₃ := k₃ _ _ hx₂
  have hns₃ : h₃.Ns L _ := hns.keeps fun b o e => k₃ _ _ (k₂ _ _ e)
  dsimp only
  rw [show starEach [Expr.JoinedStr (iP pre q4 q5 q6) q7] (ksEnv qn iS L fI (.ref cda) cc) = (false, eval (Expr.JoinedStr (iP pre q4 q5 q6) q7) (ksEnv qn iS L fI (.ref cda) cc)) :: starEach [] (ksEnv qn iS L fI (.ref cda) cc) from rfl]
  refine kxs_callWith (i := "ValueError.__init__") (x := x) rfl ?_
  refine evalArgs_plain ?_
  refine spliced_cons (joined_ok (q7 := q7) hns₃ rfl hs rfl rfl fun v tk => spliced_nil ⟨hm₃, ?_⟩)
  refine call_mw (X₃ _ _ hC) hx₃ hm₃ (one_size _) fun h₄ t1 k₄ hx₄ => ?_
  have X₄ : K.In h₄ := fun a o e => k₄ a o (fun q => by
    subst q
    have := MD.kin _ _ e
    rw [hnx] at this
    cases this) (X₃ a o e)
  have Lx : L ≠ x := fun e => by
    refine absurd (Heap.lt_size hx) ?_
    rw [hL, e]
    exact Nat.lt_irrefl _
  have hns₄ : h₄.Ns L (fun y => List.lookup y [(("self" : Str), Value.ref x), (("field" : Str), Value.str f tk0)].reverse) := by
    obtain ⟨oL, es, ep, e, r⟩ := hns₃
    exact ⟨oL, es, ep, k₄ _ _ Lx e, r⟩
  refine wpAt_of_wpAny ?_
  refine wpAny_execs_cons (plainObj_wpAny_Assign_Attribute ?_)
  refine wpAny_Name (wpAny_loadName_local rfl rfl hns₄ (v := .str f tk0) rfl ?_) (by decide)
  refine wpAny_Name (wpAny_loadName_local rfl rfl hns₄ (v := .ref x) rfl ?_) (by decide)
  refine set_plain X₄ (ox := excO C t1) (od := none) ⟨hx₄, rfl, rfl, trivial⟩ T.sa ?_
  refine exc_osa X₄ hx₄ hcl (show refsVE (.ref C :: bm) = true from hbm) rfl T.noN (fun h₅ tk₅ dx k₅ dn dne hx₅ hn₅ => ?_)
  have sz : s.heap.objs.size ≤ h₄.objs.size := by
    rw [hL]
    exact Nat.le_of_lt hns₄.lt
  refine wpAny_execs_nil (hq h₅ tk₅ dx t1 ⟨fun b o hb e => k₅ b o hb (k₄ b o hb (k₃ _ _ (k₂ _ _ (k₁ b o e)))), hx₅, Nat.le_trans sz dn, dne, hn₅⟩)
theorem exc_made (T : ExcT prog K mg nm C fI) {f : Str} {tk0 : Tok} (hs : f.length ≤ 1000) (MD : L2.Mod K mg base) (kb : ∀ b o, base.get? b = some o → s.heap.get? b = some o) (bz : base.objs.size ≤ s.heap.objs.size) (hroom : A.depth + 1 < recursionLimit)
    (hq : ∀ h' tk e d, OwnMade s.heap h' e C d (.str f tk0) → R (.ok (.ret (.ref e))) { s with heap := h', toks := tk }) :
    codeAny (model prog w) A (.call (.ref C) ⟨[.str f tk0], []⟩) R s := by
  obtain ⟨n', q, N, bs, bm, sn, sub, ab, col, dd, k0, k1, k2, k3, k5, hC, hbm⟩ := T.cls
  have X : K.In s.heap := MD.kin.keeps kb
  obtain ⟨hp, g, dr, tk, os⟩ := s
  have k : ∀ b o, hp.get? b = some o → ((hp.push (kdv_tup [.str f tk0])).push (excO C hp.objs.size)).get? b = some o := fun b o e => Heap.get?_push_of_some _ (Heap.get?_push_of_some _ e)
  have hget : ((hp.push (kdv_tup [.str f tk0])).push (excO C hp.objs.size)).get? (hp.objs.size + 1) = some (excO C hp.objs.size) := by heap_get
  have hnx : base.get? (hp.objs.size + 1) = none := by
    cases e : base.get? (hp.objs.size + 1) with
    | none => rfl
    | some o => exact absurd (Nat.lt_of_lt_of_le (Heap.lt_size e) bz) (Nat.not_lt.mpr (Nat.le_succ _))
  refine call_own F.excBase_ValueError (fun X => refsVE_contains X bm hbm) (X _ _ hC) (looks_findIn X T.iC) (fun self => bind_fn X self T.tC) (one_size _) ?_
  refine exc_init (s := ⟨(hp.push (kdv_tup [.str f tk0])).push (excO C hp.objs.size), g, dr, tk, os⟩) T hs MD (fun b o e => k b o (kb b o e)) hget hnx ?_ fun h' tk' dx t1 ⟨k', hx, dn, dne, hns⟩ => ?_
  · show A.depth + 1 < recursionLimit
    exact hroom
  · have old : ∀ b o, hp.get? b = some o → h'.get? b = some o := fun b o e => k' b o (Nat.ne_of_lt (Nat.lt_succ_of_lt (Heap.lt_size e))) (k b o e)
    have z : hp.objs.size + 1 + 1 ≤ dx := by
      first
        | (simpa only [Heap.size_push] using dn)
        | exact dn
        | (have q := dn; rw [Heap.size_push, Heap.size_push] at q; exact q)
    exact ⟨rfl, hq h' tk' (hp.objs.size + 1) dx ⟨old, Nat.le_succ _, ⟨_, _, hx, rfl, rfl, rfl, rfl⟩, Nat.le_trans (Nat.le_trans (Nat.le_succ _) (Nat.le_succ _)) z, dne, hns⟩⟩
end
end DLX
end PySem
namespace L2
open PySem PySem.Spec PyProof.Rows
theorem relO_field {v : V} {v' : Value} (r : RelV v v') (f : Str) : RelO (List.lookup f [(("field" : Str), v)]) (if f = "field" then some v' else none) := by
  by_cases hw : f = "field"
  · subst hw
    rw [if_pos rfl]
    have q : List.lookup ("field" : Str) [(("field" : Str), v)] = some v := by simp [List.lookup]
    rw [q]
    exact r
  · rw [if_neg hw]
    have qw : (f == ("field" : Str)) = false := by simpa using hw
    have q2 : List.lookup f [(("field" : Str), v)] = none := by simp [List.lookup, qw]
    rw [q2]
    trivial
section
variable {X : Cx} {C fI : Addr} {nm : Str}
/-- C(e) -/
def tMkX (C : Addr) (ta : TA) : St → Hp → XK → Prop := fun σ H Q => ta σ H fun vs H1 => ∃ f : Str, vs = [.str f] ∧ f.length ≤ 1000 ∧ ∀ d, H1 d = none → Q (.ref C) (some d) (upd H1 d (.xd [(("field" : Str), .str f)]))
theorem pmk_x {a : Expr} {ta : TA} {p pos : Pos} {k : Nat} (T : PySem.DLX.ExcT X.prog X.K X.mg nm C fI) (hr : Room (k + 1) X.A) (ha : PA X [a] ta) (hg : Gl X nm) (hdb : (nm == ("__debug__" : Str)) = false := by decide)
    (he : starEach (a :: []) X.env = (false, eval a X.env) :: starEach [] X.env := by rfl) (hpl : (backTo pos (starEach [] X.env)).any (·.1) = false := by rfl) :
    PMk X (.Call (.Name nm p) [a] [] pos) (tMkX C ta) := by
  intro pins s σ H Q I h
  refine wpAny_Call_Name_kw (ld_glob I hg T.gC ?_ hdb)
  refine PySem.W.callWith_K (h₀ := X.base) I.ok.mod.kin T.kC (thn (ha.run pos pins s σ H _ I h) fun us s1 hh => ?_) he hpl
  obtain ⟨vs, H1, I1, r1, f, ev, hz, q1⟩ := hh
  subst ev
  refine ⟨I1.kIn, ?_⟩
  cases r1 with
  | cons rv rn =>
    rename_i v' us'
    cases rn
    obtain ⟨tk0, rfl⟩ := rv
    show wpAny _ _ (call (.ref C) [.str f tk0]) _ _ _
    have bz : X.base.objs.size ≤ s1.heap.objs.size := Nat.le_trans I1.ok.bsz I1.sz
    have bk := I1.bk
    obtain ⟨hp, g, dr, tk, os⟩ := s1
    refine wpAny_call (PySem.DLX.exc_made T hz I1.ok.mod bk bz (by have := hr.dp; omega) fun h' tk' e d M => ?_)
    show MkP X pins σ Q (.ref e) ⟨h', g, dr, tk', os⟩
    obtain ⟨oe, fv, hoe, hc, hd, hdat, h1⟩ := M.obj
    have hns := M.ns
    obtain ⟨G', g1, g2⟩ := restrict h' fun b => decide (b ≠ e)
    have gk : ∀ b, b ≠ e → G'.get? b = h'.get? b := fun b hb => g1 b (decide_eq_true hb)
    have ge : G'.get? e = none := g2 e (by simp)
    have old : ∀ b o, hp.get? b = some o → G'.get? b = some o := fun b o q => (gk b (Nat.ne_of_lt (Nat.lt_of_lt_of_le (Heap.lt_size q) M.new))).trans (M.keep b o q)
    have ob : ObjOk X.prog X.w (upd H1 d (.xd [(("field" : Str), .str f)])) G' d (.xd [(("field" : Str), .str f)]) :=
      ⟨_, hns.at (fun o q => (gk d M.dne).trans q), fun g => relO_field (v := .str f) ⟨tk0, rfl⟩ g⟩
    have J : Inv X pins σ (upd H1 d (.xd [(("field" : Str), .str f)])) ⟨G', g, dr, tk', os⟩ := I1.laid (t' := tk') old M.dbig ob
    refine ⟨e, oe, fv, ⟨G', g, dr, tk', os⟩, _, .ref C, some d, rfl, J, fun b o q => ?_, ge, hoe, ⟨hc, hd⟩, hdat, h1, ?_, rfl, I1.bare, raises_own T.exC T.tyC, q1 d (I1.hok.fresh M.dbig)⟩
    · by_cases hb : b = e
      · have q' : G'.get? b = some o := q
        rw [hb, ge] at q'; cases q'
      · exact (gk b hb).symm.trans q
    · rw [upd_ne (Ne.symm M.dne)]
      exact I1.hok.fresh M.new
/-- raise C(e) -/
def tRaiseX (C : Addr) (W : WX) (ta : TA) : TS := fun _ σ H => tMkX C ta σ H fun cls d H' => W cls d σ H'
theorem ps_raiseX {a : Expr} {ta : TA} {W : WX} {p pos pos2 : Pos} {k : Nat} (hc : X.calm = true) (T : PySem.DLX.ExcT X.prog X.K X.mg nm C fI) (hr : Room (k + 1) X.A) (tk : Takes X W) (ha : PA X [a] ta) (hg : Gl X nm) (hdb : (nm == ("__debug__" : Str)) = false := by decide)
    (he : starEach (a :: []) X.env = (false, eval a X.env) :: starEach [] X.env := by rfl) (hpl : (backTo pos (starEach [] X.env)).any (·.1) = false := by rfl) :
    PS X (.Raise (some (.Call (.Name nm p) [a] [] pos)) none pos2) (tRaiseX C W ta) := ps_raise hc tk (pmk_x T hr ha hg hdb he hpl)
theorem xfC_of (T : PySem.DLX.ExcT X.prog X.K X.mg nm C fI) : XfC X.K C := ⟨T.ga, T.gg, T.exC, T.hdC⟩
end
end L2

/-! ### the layer -/
namespace DL
open PySem L2
def xdF (f : Str) : HO := .xd [(("field" : Str), V.str f)]
/-- where an exception of the class at c with its field f leaves -/
def GoodX (F G : Hp) (E : XK) (c : Addr) (f : Str) : Prop := ∀ dd G' H', Same F H' → Same G' H' → (∀ a o, F a = some o → G' a = none) → Same G G' → H' dd = some (xdF f) → F dd = none → G' dd = none → E (.ref c) (some dd) H'
def SEvX (K : PySem.W.Frag) (t : TS) (E : XK) (es : List Sl) (c : Addr) (f : Str) : Prop := ∀ F G H σ D, Stt K F G H σ es → GoodX F G E c f → t D σ H
def SMX (K : PySem.W.Frag) (t : TS) (E : XK) (es : List Sl) (c : Addr) (m : Option Str) : Prop := ∀ f, m = some f → SEvX K t E es c f
theorem GoodX.up {F G G1 : Hp} {E : XK} {c : Addr} {f : Str} (h : GoodX F G E c f) (g : Same G G1) : GoodX F G1 E c f := fun dd G' H' a b d e u v w => h dd G' H' a b d (g.trans e) u v w
section
variable {K : PySem.W.Frag} {E : XK} {es fs : List Sl} {c : Addr} {t u tz : TS} {m p q : Option Str} {te : TE} {d : Dt} {tt : TT}
theorem smx_none : SMX K t E es c none := fun f e => by cases e
theorem smx_bind {α : Type} {m1 : Option α} {f : α → Option Str} (h : ∀ x, m1 = some x → SMX K t E es c (f x)) : SMX K t E es c (m1.bind f) := fun r e => by
  cases q : m1 with
  | none => rw [q] at e; cases e
  | some x =>
    rw [q] at e
    exact h x q r e
theorem smx_lt {α : Type} {e : α} {f : α → Option Str} (h : ∀ x, e = x → SMX K t E es c (f x)) : SMX K t E es c (lt e f) := h e rfl
theorem smx_one (h : SMX K (tSeq t tNext) E es c m) : SMX K t E es c m := h
theorem smx_as {v : TS} (h : SMX K (tSeq t (tSeq u v)) E es c m) : SMX K (tSeq (tSeq t u) v) E es c m := h
theorem smx_nil (h : SMX K tz E es c m) : SMX K (tSeq tNext tz) E es c m := h
theorem smx_wk {gs : List Sl} (w : Wk es gs) (h : SMX K t E gs c m) : SMX K t E es c m := fun r e F G H σ D s q => h r e F G H σ D (s.wk w) q
theorem smx_asg {i : Nat} (h : Ev K te es d) (k : SMX K tz E (es.set i (.d d)) c m) : SMX K (tSeq (tAsg te (gName i)) tz) E es c m := fun r e F G H σ D s q =>
  h F G H σ s _ fun v G1 H1 s1 g1 r1 => k r e F G1 H1 _ D (s1.set r1) (q.up g1)
theorem smx_if {b : Bool} (h : EvT K tt es b) (h1 : b = true → SMX K (tSeq t tz) E es c p) (h2 : b = false → SMX K (tSeq u tz) E es c q) : SMX K (tSeq (tIfS tt t u) tz) E es c (if b = true then p else q) := fun r e F G H σ D s k =>
  h F G H σ s _ fun G1 H1 s1 g1 => by
    cases b with
    | true =>
      show t _ σ H1
      exact h1 rfl r e F G1 H1 σ D s1 (k.up g1)
    | false =>
      show u _ σ H1
      exact h2 rfl r e F G1 H1 σ D s1 (k.up g1)
theorem smx_raise {ta : TA} {f : Str} (ha : EvA K ta es [.str f]) (hz : f.length ≤ 1000) : SMX K (tSeq (tRaiseX c (fun cls d _ H => E cls d H) ta) tz) E es c (some f) := fun r e F G H σ D s q => by
  cases e
  refine ha F G H σ s _ fun vs G1 H1 s1 g1 r1 => ?_
  cases r1 with
  | cons rv rn =>
    cases rn
    cases rv
    refine ⟨f, rfl, hz, fun dd hd => ?_⟩
    have fd := s1.fnone hd
    have gd := s1.gnone hd
    exact q dd G1 _ (s1.f.trans (same_upd hd)) (s1.g.trans (same_upd hd)) s1.dj g1 upd_same fd gd
end
/-- the promise of a def that raises -/
def FSpecX (K : PySem.W.Frag) (R : List Sl → Addr → Str → Prop) : Sp := fun vs H _ E => ∃ F G ss c f, Stt K F G H (vs.map some) ss ∧ R ss c f ∧ GoodX F G E c f
def XD (P : List Dt → Addr → Str → Prop) : List Sl → Addr → Str → Prop := fun ss c f => ∃ ds, ss = ds.map .d ∧ P ds c f
def XI (C : Addr) (P : List Dt → Addr → Str → Prop) : List Sl → Addr → Str → Prop := fun ss c f => ∃ p ds, ss = .obo (some p) C [] :: ds.map .d ∧ P ds c f
def spOr (a b : Sp) : Sp := fun vs H Q E => a vs H Q E ∨ b vs H Q E
section
variable {P : Program} {w : World} {K : PySem.W.Frag} {mg : Str → Option Value} {base : Heap}
theorem fn_or {f : Addr} {fd : FuncData} {ps : List Str} {j k : Nat} {a b : Sp} (F1 : FnOk P w K mg base CX0 j f fd ps a) (F2 : FnOk P w K mg base (L2.CX P w) k f fd ps b) : FnOk P w K mg base (L2.CX P w) (max j k) f fd ps (spOr a b) :=
  ⟨fun vs H Q E h => h.elim (F1.len vs H Q E) (F2.len vs H Q E), fun A outer s H args us vs Q E hr he hb hv hs => hs.elim
    (fun h => codeAny_mono (F1.run A outer s H args us vs Q E (hr.mono (Nat.le_max_left ..)) he hb hv h) fun r s' q => by
      cases r with
      | ok fl => cases fl <;> exact q
      | error e => exact False.elim q)
    (fun h => F2.run A outer s H args us vs Q E (hr.mono (Nat.le_max_right ..)) he hb hv h)⟩
theorem fnx_D {x qual : Str} {st : Stmt} {f : Addr} {fd : FuncData} {N ps : List Str} {k : Nat} {R : List Dt → Addr → Str → Prop} (F : Fun K x qual st f fd) (S : FnScope N ps (defScope st)) (hl : ∀ ds c g, R ds c g → ds.length = ps.length)
    (body : ∀ (cdv : Value) (A : Around) (outer : List Env) (s : Shared) (H : Hp) (E : XK), Room k (A.deeper (PyProof.Rows.envOfC qual (defScope st) s.heap.objs.size f cdv)) →
      ∃ t, PSs (cxOf (L2.CX P w) P w K mg base N qual (defScope st) f cdv A outer s H E) (defBody st) t ∧ ∀ ds c g, R ds c g → SEvX K t E (ds.map .d ++ List.replicate (N.length - ps.length) .un) c g) :
    FnOk P w K mg base (L2.CX P w) (k + 1) f fd ps (FSpecX K (XD R)) := by
  refine F.okX S (fun vs H Q E h => ?_) (fun cdv A outer s H vs Q E hr h => ?_)
  · obtain ⟨F, G, ss, c, g, s, ⟨ds, rfl, hR⟩, _⟩ := h
    have := s.len
    rw [List.length_map, List.length_map, hl ds c g hR] at this
    exact this
  · obtain ⟨t, ht, hb⟩ := body cdv A outer s H E hr
    refine ⟨t, ht, ?_⟩
    obtain ⟨F1, G, ss, c, g, st1, ⟨ds, rfl, hR⟩, q⟩ := h
    exact hb ds c g hR F1 G H _ _ (stt_start st1 (by rw [List.length_map, hl ds c g hR])) q
theorem fnx_I {x qual : Str} {st : Stmt} {f : Addr} {fd : FuncData} {N ps : List Str} {k : Nat} {C : Addr} {R : List Dt → Addr → Str → Prop} (F : Fun K x qual st f fd) (S : FnScope N ps (defScope st)) (hl : ∀ ds c g, R ds c g → ds.length + 1 = ps.length)
    (body : ∀ (cdv : Value) (A : Around) (outer : List Env) (s : Shared) (H : Hp) (E : XK), Room k (A.deeper (PyProof.Rows.envOfC qual (defScope st) s.heap.objs.size f cdv)) →
      ∃ t, PSs (cxOf (L2.CX P w) P w K mg base N qual (defScope st) f cdv A outer s H E) (defBody st) t ∧ ∀ p ds c g, R ds c g → SEvX K t E (.obo (some p) C [] :: ds.map .d ++ List.replicate (N.length - ps.length) .un) c g) :
    FnOk P w K mg base (L2.CX P w) (k + 1) f fd ps (FSpecX K (XI C R)) := by
  refine F.okX S (fun vs H Q E h => ?_) (fun cdv A outer s H vs Q E hr h => ?_)
  · obtain ⟨F, G, ss, c, g, s, ⟨p, ds, rfl, hR⟩, _⟩ := h
    have := s.len
    rw [List.length_map, List.length_cons, List.length_map, hl ds c g hR] at this
    exact this
  · obtain ⟨t, ht, hb⟩ := body cdv A outer s H E hr
    refine ⟨t, ht, ?_⟩
    obtain ⟨F1, G, ss, c, g, st1, ⟨p, ds, rfl, hR⟩, q⟩ := h
    exact hb p ds c g hR F1 G H _ _ (stt_start st1 (by rw [List.length_cons, List.length_map, hl ds c g hR])) q
end

/-! ### calls that may raise -/
/-- a call raises: c with its field f -/
def XvE (K : PySem.W.Frag) (tc : (L2.St → XK) → TE) (es : List Sl) (c : Addr) (f : Str) : Prop := ∀ F G H σ, Stt K F G H σ es → ∀ (Q : VK) (E : L2.St → XK),
  (∀ dd G' H', Stt K F G' H' σ es → Same G G' → H' dd = some (xdF f) → F dd = none → G' dd = none → E σ (.ref c) (some dd) H') → tc E σ H Q
section
variable {K : PySem.W.Frag} {es : List Sl} {ta tk : TA} {ds ks ds' : List Dt} {d : Dt} {c : Addr} {f : Str} {R : List Dt → Addr → Str → Prop} {sp2 : Sp}
theorem ev_callX {P : List Dt → Dt → Prop} {E : L2.St → XK} (ha : EvA K ta es ds) (hP : P ds d) : Ev K (tCallS (spOr (FSpec K (RD P)) sp2) E ta) es d := fun F G H σ s Q q =>
  ha F G H σ s _ fun vs G1 H1 s1 g1 r1 => .inl ⟨DL.rem G1 H1, G1, ds.map .d, d, ds.map .d, stt_data s1.rem.1 s1.g s1.rem.2 r1, ⟨_, rfl, rfl, hP⟩, fun v G2 H2 s2 g2 r2 =>
    q v G2 H2 (s1.after s2.f s2.g s2.dj g2) (g1.trans g2) r2⟩
theorem xv_call {a : Sp} (ha : EvA K ta es ds) (hP : R ds c f) : XvE K (fun E => tCallS (spOr a (FSpecX K (XD R))) E ta) es c f := fun F G H σ s Q E q =>
  ha F G H σ s _ fun vs G1 H1 s1 g1 r1 => .inr ⟨DL.rem G1 H1, G1, ds.map .d, c, f, stt_data s1.rem.1 s1.g s1.rem.2 r1, ⟨_, rfl, hP⟩, fun dd G2 H2 a1 a2 a3 a4 a5 a6 a7 => by
    have s2 := s1.after a1 a2 a3 a4
    refine q dd G2 H2 s2 (g1.trans a4) a5 ?_ a7
    cases q : F dd with
    | none => rfl
    | some o =>
      have h1 := s1.f dd o q
      have g0 := s1.dj dd o q
      rw [DL.rem_of g0, h1] at a6
      cases a6⟩
/-- f(e, .., k = v, ..) -/
def tCallNS (n m : Nat) (sp : Sp) (gV : List V → List V → List V) (E : L2.St → XK) (t tk : TA) : TE := fun σ H Q => t σ H fun vs H1 => tk σ H1 fun zs H2 => vs.length = n ∧ zs.length = m ∧ sp (gV vs zs) H2 Q (E σ)
theorem tCallNS_perm {n m : Nat} {sp : Sp} {fV : List V → List V → List V} {E : L2.St → XK} : tCallS sp E (tPermA n m fV ta tk) = tCallNS n m sp fV E ta tk := by
  funext σ H Q
  unfold tCallS tCallNS tPermA
  rfl
theorem ev_callNX {P : List Dt → Dt → Prop} {n m : Nat} {fV : List V → List V → List V} {E : L2.St → XK} (ha : EvA K ta es ds) (hk : EvA K tk es ks) (hn : ds.length = n) (hm : ks.length = m)
    (hf : ∀ G vs zs, Reps K G vs ds → Reps K G zs ks → Reps K G (fV vs zs) ds') (hP : P ds' d) : Ev K (tCallNS n m (spOr (FSpec K (RD P)) sp2) fV E ta tk) es d := by
  rw [← tCallNS_perm]
  exact ev_callX (ea_perm ha hk hn hm hf) hP
theorem xv_callN {a : Sp} {n m : Nat} {fV : List V → List V → List V} (ha : EvA K ta es ds) (hk : EvA K tk es ks) (hn : ds.length = n) (hm : ks.length = m)
    (hf : ∀ G vs zs, Reps K G vs ds → Reps K G zs ks → Reps K G (fV vs zs) ds') (hP : R ds' c f) : XvE K (fun E => tCallNS n m (spOr a (FSpecX K (XD R))) fV E ta tk) es c f := by
  have h := xv_call (a := a) (ea_perm ha hk hn hm hf) hP
  intro F G H σ s Q E q
  exact h F G H σ s Q E q
/-- C(e, ..) -/
def tMakeS (C : Addr) (sp : Sp) (E : L2.St → XK) (t : TA) : TE := fun σ H Q => t σ H fun vs H1 => ∀ x dx, H1 x = none → H1 dx = none → dx ≠ x →
  sp (.ref x :: vs) (upd (upd H1 dx (.own x)) x (.ins C dx [])) (fun v H2 => v = .non ∧ Q (.ref x) H2) (E σ)
theorem ev_makeX {P : List Dt → List (Str × Dt) → Prop} {C : Addr} {fs : List (Str × Dt)} {E : L2.St → XK} (ha : EvA K ta es ds) (hP : P ds fs) : Ev K (tMakeS C (spOr (FSpec K (RI C P)) sp2) E ta) es (.obj C fs) := fun F G H σ s Q q =>
  ha F G H σ s _ fun vs G1 H1 s1 g1 r1 x dx hx hdx ne => by
    have hx1 : upd H1 dx (.own x) x = none := by
      rw [upd_ne (fun z => ne z.symm)]
      exact hx
    have s2 : Stt K F G1 (upd (upd H1 dx (.own x)) x (.ins C dx [])) σ es := (s1.lay hdx).lay hx1
    have gx : G1 x = none := s1.gnone hx
    have rx : ∀ a o, a ≠ x → DL.rem G1 (upd (upd H1 dx (.own x)) x (.ins C dx [])) a = some o → DL.rem G1 (upd (upd H1 dx (.own x)) x (.ins C dx [])) a = some o := fun _ _ _ e => e
    -- what is another's: all but the known and the new one
    refine .inl ⟨fun a => if a = x then none else DL.rem G1 (upd (upd H1 dx (.own x)) x (.ins C dx [])) a, G1, .obo (some x) C [] :: ds.map .d, .non, .obo (some x) C fs :: ds.map .d, ?_, ⟨x, _, fs, rfl, rfl, rfl, hP⟩, ?_⟩
    · have base : Stt K (fun a => if a = x then none else DL.rem G1 (upd (upd H1 dx (.own x)) x (.ins C dx [])) a) G1 (upd (upd H1 dx (.own x)) x (.ins C dx [])) (vs.map some) (ds.map .d) := by
        refine stt_data (fun a o e => ?_) s2.g (fun a o e => ?_) r1
        · by_cases q : a = x
          · rw [if_pos q] at e; cases e
          · rw [if_neg q] at e; exact (DL.rem_some e).1
        · by_cases q : a = x
          · rw [if_pos q] at e; cases e
          · rw [if_neg q] at e; exact (DL.rem_some e).2
      refine ⟨base.f, base.g, base.dj, by rw [List.map_cons, List.length_cons, List.length_cons, base.len], fun i t e => ?_, sp_one⟩
      · cases i with
        | zero =>
          cases e
          exact ⟨_, rfl, x, dx, [], rfl, gx, if_pos rfl, upd_same, .nil, fun q e => (Option.some.inj e).symm⟩
        | succ i => exact base.sl i t e
    · intro v G2 H2 s3 g3 r3
      cases r3
      obtain ⟨o, ho, p, dx', fv, eo, gp, fp, hp, rf, an⟩ := s3.sl 0 _ rfl
      cases ho
      cases eo
      refine ⟨rfl, ?_⟩
      have gx2 : Same G2 (upd G2 x (.ins C dx' fv)) := same_upd gp
      have s4 : Stt K F (upd G2 x (.ins C dx' fv)) H2 σ es := by
        have keep : ∀ a o, H1 a = some o → G1 a = none → H2 a = some o ∧ G2 a = none := fun a o e g => by
          have ax : a ≠ x := fun z => by subst z; rw [hx] at e; cases e
          have adx : a ≠ dx := fun z => by subst z; rw [hdx] at e; cases e
          have fa : (if a = x then none else DL.rem G1 (upd (upd H1 dx (.own x)) x (.ins C dx [])) a) = some o := by
            rw [if_neg ax, DL.rem_of g, upd_ne ax, upd_ne adx]
            exact e
          exact ⟨s3.f a o fa, s3.dj a o fa⟩
        have nex : ∀ a o, H1 a = some o → a ≠ x := fun a o e z => by subst z; rw [hx] at e; cases e
        refine s1.after (H' := H2) (G' := upd G2 x (.ins C dx' fv)) (fun a o e => (keep a o (DL.rem_some e).1 (DL.rem_some e).2).1) (fun a o e => ?_) (fun a o e => ?_) (g3.trans gx2)
        · by_cases q : a = x
          · subst q
            rw [upd_same] at e
            cases e
            exact hp
          · rw [upd_ne q] at e
            exact s3.g a o e
        · rw [upd_ne (nex a o (DL.rem_some e).1)]
          exact (keep a o (DL.rem_some e).1 (DL.rem_some e).2).2
      exact q _ _ H2 s4 (g1.trans (g3.trans gx2)) (.obj upd_same (rf.mono gx2))
theorem xv_make {a : Sp} {C : Addr} (ha : EvA K ta es ds) (hP : R ds c f) : XvE K (fun E => tMakeS C (spOr a (FSpecX K (XI C R))) E ta) es c f := fun F G H σ s Q E q =>
  ha F G H σ s _ fun vs G1 H1 s1 g1 r1 x dx hx hdx ne => by
    have hx1 : upd H1 dx (.own x) x = none := by
      rw [upd_ne (fun z => ne z.symm)]
      exact hx
    have s2 : Stt K F G1 (upd (upd H1 dx (.own x)) x (.ins C dx [])) σ es := (s1.lay hdx).lay hx1
    have gx : G1 x = none := s1.gnone hx
    have rx : ∀ a o, a ≠ x → DL.rem G1 (upd (upd H1 dx (.own x)) x (.ins C dx [])) a = some o → DL.rem G1 (upd (upd H1 dx (.own x)) x (.ins C dx [])) a = some o := fun _ _ _ e => e
    -- what is another's: all but the known and the new one
    refine .inr ⟨fun a => if a = x then none else DL.rem G1 (upd (upd H1 dx (.own x)) x (.ins C dx [])) a, G1, .obo (some x) C [] :: ds.map .d, c, f, ?_, ⟨x, _, rfl, hP⟩, ?_⟩
    · have base : Stt K (fun a => if a = x then none else DL.rem G1 (upd (upd H1 dx (.own x)) x (.ins C dx [])) a) G1 (upd (upd H1 dx (.own x)) x (.ins C dx [])) (vs.map some) (ds.map .d) := by
        refine stt_data (fun a o e => ?_) s2.g (fun a o e => ?_) r1
        · by_cases q : a = x
          · rw [if_pos q] at e; cases e
          · rw [if_neg q] at e; exact (DL.rem_some e).1
        · by_cases q : a = x
          · rw [if_pos q] at e; cases e
          · rw [if_neg q] at e; exact (DL.rem_some e).2
      refine ⟨base.f, base.g, base.dj, by rw [List.map_cons, List.length_cons, List.length_cons, base.len], fun i t e => ?_, sp_one⟩
      · cases i with
        | zero =>
          cases e
          exact ⟨_, rfl, x, dx, [], rfl, gx, if_pos rfl, upd_same, .nil, fun q e => (Option.some.inj e).symm⟩
        | succ i => exact base.sl i t e
    · intro dd G2 H2 a1 a2 a3 a4 a5 a6 a7
      have keep : ∀ a o, H1 a = some o → G1 a = none → (if a = x then none else DL.rem G1 (upd (upd H1 dx (.own x)) x (.ins C dx [])) a) = some o := fun a o e g => by
        have ax : a ≠ x := fun z => by subst z; rw [hx] at e; cases e
        have adx : a ≠ dx := fun z => by subst z; rw [hdx] at e; cases e
        rw [if_neg ax, DL.rem_of g, upd_ne ax, upd_ne adx]
        exact e
      refine q dd G2 H2 (s1.after (fun a o e => a1 a o (keep a o (DL.rem_some e).1 (DL.rem_some e).2)) a2 (fun a o e => a3 a o (keep a o (DL.rem_some e).1 (DL.rem_some e).2)) a4) (g1.trans a4) a5 ?_ a7
      cases hq : F dd with
      | none => rfl
      | some o =>
        have := keep dd o (s1.f dd o hq) (s1.dj dd o hq)
        have a6' : (if dd = x then none else DL.rem G1 (upd (upd H1 dx (.own x)) x (.ins C dx [])) dd) = none := a6
        rw [this] at a6'
        cases a6'
end
end DL
namespace L2
open PySem PySem.Spec PyProof.Rows DL
section
variable {X : Cx} {CX : CXT} {k n : Nat} {f C : Addr} {fd : FuncData} {ps ks : List Str} {sp : Sp} {E : St → XK} {x : Str} {p pos : Pos} {e : Expr} {es : List Expr} {kws : List Keyword} {t tk : TA} {g : List Value → List Value → List Value} {gV : List V → List V → List V}
theorem run_fnNS {pins : List (Addr × Obj)} {σ : St} {H : Hp} {s : Shared} {Q : VK} {us ws : List Value} {vs zs : List V} (F : FnOk X.prog X.w X.K X.mg X.base CX k f fd ps sp) (hr : Room k X.A) (hb : KBn X.K fd ps n ks g gV) (hx : PassesAt CX X σ (E σ))
    (I : Inv X pins σ H s) (r : Vals vs us) (rz : Vals zs ws) (l1 : vs.length = n) (l2 : zs.length = ks.length) (h : sp (gV vs zs) H Q (E σ)) : wpAny (model X.prog X.w) X.A (call (.ref f) us (ks.zip ws)) (EP X pins σ Q) X.xe s := by
  have r2 := hb.rel r rz
  refine wpAny_call (codeAny_mono (F.run X.A X.stack s H ⟨us, ks.zip ws⟩ (g us ws) (gV vs zs) Q (E σ) hr I.env0 (hb.to s us ws I.kIn (r.length.symm.trans l1) (rz.length.symm.trans l2)) r2 h) fun r s' hq => ?_)
  cases r with
  | error e => exact hx pins H s e s' I hq
  | ok fl =>
    cases fl with
    | ret u => exact I.after hq
    | next => exact False.elim hq
    | brk => exact False.elim hq
    | cont => exact False.elim hq
/-- f(e, .., k = v, ..), where what is raised is wished for at the caller's slots -/
theorem pe_callNS (F : FnOk X.prog X.w X.K X.mg X.base CX k f fd ps sp) (hr : Room k X.A) (hg : Gl X x) (hm : X.mg x = some (.ref f)) (hk : PySem.W.keepIn X.K (.ref f) = true) (hb : KBn X.K fd ps n ks g gV) (hx : ∀ σ, PassesAt CX X σ (E σ))
    (ha : PA X (e :: es) t) (hkw : PK X kws tk) (hall : (backToKw pos (keywordEach kws X.env)).all (·.1.isSome) = true := by rfl) (hks : (backToKw pos (keywordEach kws X.env)).filterMap (·.1) = ks := by rfl)
    (hdb : (x == ("__debug__" : Str)) = false := by decide) (he : starEach (e :: es) X.env = (false, eval e X.env) :: starEach es X.env := by rfl)
    (hpl : ((backTo pos (starEach (e :: es) X.env)).any (·.1) || (backToKw pos (keywordEach kws X.env)).any (·.1.isNone)) = false := by rfl) :
    PE X (.Call (.Name x p) (e :: es) kws pos) (tCallNS n ks.length sp gV E t tk) := by
  refine ⟨fun pins s σ H Q I h => ?_⟩
  refine wpAny_Call_Name_kw (ld_glob I hg hm ?_ hdb)
  refine PySem.W.callWith_KW (h₀ := X.base) I.ok.mod.kin hk hall (thn (ha.run pos pins s σ H _ I h) fun us s1 ⟨vs, H1, I1, r, q⟩ => ?_) hpl he
  refine thn (hkw.run pos pins s1 σ H1 _ I1 q) fun ws s2 ⟨zs, H2, I2, rz, l1, l2, q2⟩ => ⟨I2.kIn, ?_⟩
  rw [hks]
  exact run_fnNS F hr hb (hx σ) I2 r rz l1 l2 q2
theorem run_makeS {pins : List (Addr × Obj)} {σ : St} {H : Hp} {s : Shared} {Q : VK} {us : List Value} {vs : List V} (M : Mk X.K C f) (F : FnOk X.prog X.w X.K X.mg X.base CX k f fd ps sp) (hr : Room (k + 1) X.A) (hb : Binds X.K fd ps [])
    (hx : PassesAt CX X σ (E σ)) (I : Inv X pins σ H s) (r : Vals vs us)
    (h : ∀ x dx, H x = none → H dx = none → dx ≠ x → sp (.ref x :: vs) (upd (upd H dx (.own x)) x (.ins C dx [])) (fun v H2 => v = .non ∧ Q (.ref x) H2) (E σ)) :
    wpAny (model X.prog X.w) X.A (call (.ref C) us) (EP X pins σ Q) X.xe s := by
  have hq := h (s.heap.objs.size + 1) s.heap.objs.size (I.hok.fresh (Nat.le_succ _)) (I.hok.fresh (Nat.le_refl _)) (Nat.ne_of_lt (Nat.lt_succ_self _))
  have I2 := Inv.made (C := C) I
  have r2 : Vals (V.ref (s.heap.objs.size + 1) :: vs) (Value.ref (s.heap.objs.size + 1) :: us) := .cons rfl r
  have hl : (Value.ref (s.heap.objs.size + 1) :: us).length = ps.length := by
    have e := r2.length
    rw [F.len _ _ _ _ hq] at e
    exact e.symm
  have b := hb { s with heap := _ } (Value.ref (s.heap.objs.size + 1) :: us) I2.kIn (by rw [List.append_nil]; exact hl)
  rw [List.append_nil] at b
  refine wpAny_call (make_map (f := f) I.kIn M.makes M.init (beq_iff_eq.mp M.fn) (codeAny_mono (F.run _ X.stack _ _ ⟨Value.ref (s.heap.objs.size + 1) :: us, []⟩ (Value.ref (s.heap.objs.size + 1) :: us) _ _ (E σ) (hr.make C us [])
    (I2.env0.make C us []) b r2 hq) fun r s' hq' => ?_))
  cases r with
  | error e => exact hx pins _ _ e s' I2 hq'
  | ok fl =>
    cases fl with
    | ret u =>
      obtain ⟨v, H', I3, rv, ev, q3⟩ := I2.after hq'
      subst ev
      exact ⟨rv, ⟨V.ref (s.heap.objs.size + 1), H', I3, rfl, q3⟩⟩
    | next => exact False.elim hq'
    | brk => exact False.elim hq'
    | cont => exact False.elim hq'
theorem pe_makeS (M : Mk X.K C f) (F : FnOk X.prog X.w X.K X.mg X.base CX k f fd ps sp) (hr : Room (k + 1) X.A) (hg : Gl X x) (hm : X.mg x = some (.ref C)) (hb : Binds X.K fd ps []) (hx : ∀ σ, PassesAt CX X σ (E σ))
    (ha : PA X (e :: es) t) (hdb : (x == ("__debug__" : Str)) = false := by decide) (he : starEach (e :: es) X.env = (false, eval e X.env) :: starEach es X.env := by rfl) (hpl : (backTo pos (starEach es X.env)).any (·.1) = false := by rfl) :
    PE X (.Call (.Name x p) (e :: es) [] pos) (tMakeS C sp E t) := by
  refine ⟨fun pins s σ H Q I h => ?_⟩
  refine wpAny_Call_Name_kw (ld_glob I hg hm ?_ hdb)
  refine PySem.W.callWith_K (h₀ := X.base) I.ok.mod.kin M.kp (thn (ha.run pos pins s σ H _ I h) fun us s1 ⟨vs, H1, I1, r, q⟩ => ⟨I1.kIn, ?_⟩) he hpl
  exact run_makeS M F hr hb (hx σ) I1 r q
end
end L2
namespace DL
open PySem L2
/-! ### except suites -/
section
variable {K : PySem.W.Frag} {F G H : Hp} {σ : L2.St} {es : List Sl} {dd : Addr} {f : Str}
/-- the exception's dict is held -/
theorem Stt.hold (s : Stt K F G H σ es) (h : H dd = some (xdF f)) (hg : G dd = none) (hf : F dd = none) : Stt K (upd F dd (xdF f)) G H σ es where
  f := fun a o e => by
    by_cases q : a = dd
    · subst q
      rw [upd_same] at e
      cases e
      exact h
    · rw [upd_ne q] at e
      exact s.f a o e
  g := s.g
  dj := fun a o e => by
    by_cases q : a = dd
    · subst q
      exact hg
    · rw [upd_ne q] at e
      exact s.dj a o e
  len := s.len
  sl := fun i t e => by
    obtain ⟨x, hx, k⟩ := s.sl i t e
    refine ⟨x, hx, k.tr (Same.refl _) fun a m g f => ⟨g, ?_, fun w hw => hw⟩⟩
    rw [upd_ne fun q => k.xd m (q ▸ h)]
    exact f
  sp := s.sp
/-- let go -/
theorem Stt.loose {o : HO} (s : Stt K (upd F dd o) G H σ es) (hf : F dd = none) : Stt K F G H σ es where
  f := fun a u e => s.f a u (by rw [upd_ne (ne_of_none e hf)]; exact e)
  g := s.g
  dj := fun a u e => s.dj a u (by rw [upd_ne (ne_of_none e hf)]; exact e)
  len := s.len
  sl := fun i t e => by
    obtain ⟨x, hx, k⟩ := s.sl i t e
    exact ⟨x, hx, k.grow (Same.refl _) (fun q u _ _ e => e) fun q g _ h => ⟨g, (upd_none h).2⟩⟩
  sp := s.sp
theorem Stt.undo (s : Stt K F G H σ es) (i : Nat) (x : Option V) : Stt K F G H (σ.set i x) (es.set i .un) where
  f := s.f
  g := s.g
  dj := s.dj
  len := by rw [List.length_set, List.length_set]; exact s.len
  sl := fun j t e => by
    by_cases q : i = j
    · subst q
      have hl : i < es.length := by
        have := (List.getElem?_eq_some_iff.mp e).1
        rwa [List.length_set] at this
      rw [List.getElem?_set_self hl] at e
      cases e
      exact ⟨x, List.getElem?_set_self (by rw [s.len]; exact hl), trivial⟩
    · rw [List.getElem?_set_ne q] at e ⊢
      exact s.sl j t e
  sp := sp_set s.sp has_un
end
/-- within an except suite: the exception at a in slot i, its dict at dd -/
def Hld (F : Hp) (σ : L2.St) (a dd : Addr) (i : Nat) (f : Str) : Prop := F dd = some (xdF f) ∧ σ[i]? = some (some (.ref a))
def EvH (K : PySem.W.Frag) (a dd : Addr) (i : Nat) (f : Str) (te : TE) (es : List Sl) (d : Dt) : Prop := ∀ F G H σ, Stt K F G H σ es → Hld F σ a dd i f → ∀ Q : VK, (∀ v G' H', Stt K F G' H' σ es → Same G G' → Rep K G' v d → Q v H') → te σ H Q
def SMH {ρ : Type} (K : PySem.W.Frag) (a dd : Addr) (i : Nat) (f : Str) (t : TS) (es : List Sl) (m : Option ρ) (oc : ρ → Res) : Prop := ∀ r, m = some r → ∀ F G H σ D, Stt K F G H σ es → Hld F σ a dd i f → Good K F G D (oc r) → t D σ H
section
variable {K : PySem.W.Frag} {a dd c : Addr} {i : Nat} {f : Str} {te ta tb : TE} {es fs : List Sl} {d x y z : Dt} {ρ : Type} {m p q : Option ρ} {oc : ρ → Res} {t u tz : TS}
theorem evh_of (h : Ev K te es d) : EvH K a dd i f te es d := fun F G H σ s _ Q q => h F G H σ s Q q
theorem evh_fld : EvH K a dd i f (tXf a (.ref c) (some dd) c "field" (tVar i)) es (.str f) := fun F G H σ s h Q q =>
  ⟨_, h.2, rfl, rfl, dd, _, .str f, rfl, s.f _ _ h.1, by rfl, q _ G H s (Same.refl _) (.str f)⟩
theorem evh_op {r : R2} (ha : EvH K a dd i f ta es x) (hb : EvH K a dd i f tb es y) (hr : R2D K r x y z) : EvH K a dd i f (tOp r ta tb) es z := fun F G H σ s h Q q =>
  ha F G H σ s h _ fun x G1 H1 s1 g1 r1 => hb F G1 H1 σ s1 h _ fun y G2 H2 s2 g2 r2 => hr F G2 H2 σ es x y s2 (r1.mono g2) r2 Q fun v G3 H3 s3 g3 r3 => q v G3 H3 s3 (g1.trans (g2.trans g3)) r3
theorem evh_eqS {g h : Str} (ha : EvH K a dd i f ta es (.str g)) (hb : EvH K a dd i f tb es (.str h)) : EvH K a dd i f (tOp rEq ta tb) es (.bl (decide (g = h))) := by
  have e : decide (g = h) = decide (fl (.str g) = fl (.str h)) := dec_congr ⟨fun e => by rw [e], fun e => by cases e; rfl⟩
  rw [e]
  exact evh_op ha hb (r2_eq rfl rfl rfl)
theorem evh_neS {g h : Str} (ha : EvH K a dd i f ta es (.str g)) (hb : EvH K a dd i f tb es (.str h)) : EvH K a dd i f (tOp rNe ta tb) es (.bl (!decide (g = h))) := by
  have e : decide (g = h) = decide (fl (.str g) = fl (.str h)) := dec_congr ⟨fun e => by rw [e], fun e => by cases e; rfl⟩
  rw [e]
  exact evh_op ha hb (r2_ne rfl rfl rfl)
theorem smh_of (h : SM K t es m oc) : SMH K a dd i f t es m oc := fun r e F G H σ D s _ q => h r e F G H σ D s q
theorem smh_one (h : SMH K a dd i f (tSeq t tNext) es m oc) : SMH K a dd i f t es m oc := h
theorem smh_ret {r : ρ} (h : EvH K a dd i f te es d) (w : Wk es fs) (e : oc r = .rt d fs) : SMH K a dd i f (tSeq (tRet te) tz) es (some r) oc := fun r' e' F G H σ D s hh q => by
  cases e'
  rw [e] at q
  exact h F G H σ s hh _ fun v G1 H1 s1 g1 r1 => q v G1 H1 σ (s1.wk w) g1 r1
theorem smh_if {b : Bool} (h : EvH K a dd i f te es (.bl b)) (h1 : b = true → SMH K a dd i f (tSeq t tz) es p oc) (h2 : b = false → SMH K a dd i f (tSeq u tz) es q oc) : SMH K a dd i f (tSeq (tIfS (tB te) t u) tz) es (if b = true then p else q) oc := fun r e F G H σ D s hh k =>
  h F G H σ s hh _ fun v G1 H1 s1 g1 r1 => by
    cases r1
    refine ⟨b, rfl, ?_⟩
    cases b with
    | true =>
      show t _ σ H1
      exact h1 rfl r e F G1 H1 σ D s1 hh (k.up g1)
    | false =>
      show u _ σ H1
      exact h2 rfl r e F G1 H1 σ D s1 hh (k.up g1)
end
def tryX {ρ : Type} (x : Option Str) (h : Str → Option ρ) (m : Option ρ) : Option ρ := match x with
  | some f => h f
  | none => m
section
variable {K : PySem.W.Frag} {ta tb : TE} {es : List Sl}
theorem fl_dO {i j : Option Int} : fl (dO Dt.int i) = fl (dO Dt.int j) ↔ i = j := by
  constructor
  · intro h
    cases i with
    | none => cases j with
      | none => rfl
      | some y => exact V.noConfusion (show V.non = V.int y from h)
    | some x => cases j with
      | none => exact V.noConfusion (show V.int x = V.non from h)
      | some y => exact congrArg some (V.int.inj (show V.int x = V.int y from h))
  · intro h
    rw [h]
theorem scal_dO {i j : Option Int} : scal (fl (dO Dt.int i)) (fl (dO Dt.int j)) = true := by
  cases i <;> cases j <;> rfl
theorem isFl_dO {i : Option Int} : isFl (dO Dt.int i) = true := by
  cases i <;> rfl
theorem ev_eqOI {i j : Option Int} (ha : Ev K ta es (dO Dt.int i)) (hb : Ev K tb es (dO Dt.int j)) : Ev K (tOp rEq ta tb) es (.bl (decide (i = j))) := by
  have h := ev_op ha hb (r2_eq (K := K) scal_dO isFl_dO isFl_dO)
  rwa [dec_congr fl_dO] at h
theorem ev_neOI {i j : Option Int} (ha : Ev K ta es (dO Dt.int i)) (hb : Ev K tb es (dO Dt.int j)) : Ev K (tOp rNe ta tb) es (.bl (!decide (i = j))) := by
  have h := ev_op ha hb (r2_ne (K := K) scal_dO isFl_dO isFl_dO)
  rwa [dec_congr fl_dO] at h
end
/-- try: call; rest / except C as e: suite; the exception's slot is i -/
theorem sm_try {ρ : Type} {K : PySem.W.Frag} {es : List Sl} {tc : (L2.St → XK) → TE} {rest : TS} {ts : Addr → Value → Option Addr → TS} {c : Addr} {i : Nat} {x : Option Str} {m : Option ρ} {hm : Str → Option ρ} {oc : ρ → Res}
    (he : PySem.W.exmOne K (.ref c) (.ref c) = some true) (hu : ∃ z, es[i]? = some z ∧ z = .un)
    (hx : ∀ f, x = some f → XvE K tc es c f) (hn : x = none → ∀ E, SM K (tSeq (tDrop (tc E)) rest) es m oc)
    (hh : ∀ a dd f, SMH K a dd i f (ts a (.ref c) (some dd)) es (hm f) oc)
    (ho : ∀ r fs, oc r = .nx fs → fs[i]? = some .un) (hno : ∀ r, (∃ fs, oc r = .nx fs) ∨ ∃ d fs, oc r = .rt d fs) :
    SM K (fun D σ H => (fun W => tSeq (tDrop (tc (WE W))) rest) (wAs K (.ref c) i ts (fun _ _ _ _ => False) D) D σ H) es (tryX x hm m) oc := fun r e F G H σ D s q => by
  obtain ⟨z, hz, rfl⟩ := hu
  cases x with
  | none => exact hn rfl _ r e F G H σ D s q
  | some f =>
    have e : hm f = some r := e
    refine hx f rfl F G H σ s _ _ fun dd G' H' s1 g1 h1 f1 n1 => ?_
    refine ⟨true, he, fun _ a ha => ?_, fun z => by cases z⟩
    have hi : i < σ.length := by rw [s.len]; exact (List.getElem?_eq_some_iff.mp hz).1
    have es' : es.set i .un = es := List.ext_getElem? fun k => by
      by_cases q : i = k
      · subst q
        rw [List.getElem?_set_self (List.getElem?_eq_some_iff.mp hz).1, hz]
      · rw [List.getElem?_set_ne q]
    have s2 : Stt K (upd F dd (xdF f)) G' H' (σ.set i (some (.ref a))) es := by
      have := (s1.hold h1 n1 f1).undo i (some (.ref a))
      rw [es'] at this
      exact this
    refine hh a dd f r e _ G' H' _ _ s2 ⟨upd_same, List.getElem?_set_self hi⟩ ?_
    rcases hno r with ⟨fs, w⟩ | ⟨d, fs, w⟩
    · have wi := ho r fs w
      rw [w] at q ⊢
      intro G2 H2 σ2 s3 g2
      refine q G2 H2 (σ2.set i none) ?_ (g1.trans g2)
      have := (s3.loose f1).undo i none
      have e3 : fs.set i .un = fs := List.ext_getElem? fun k => by
        by_cases q : i = k
        · subst q
          rw [List.getElem?_set_self (List.getElem?_eq_some_iff.mp wi).1, wi]
        · rw [List.getElem?_set_ne q]
      rw [e3] at this
      exact this
    · rw [w] at q ⊢
      intro v G2 H2 σ2 s3 g2 r2
      exact q v G2 H2 σ2 (s3.loose f1) (g1.trans g2) r2
end DL
namespace L2
open PySem PySem.Spec PyProof.Rows DL
theorem smx_run {K : PySem.W.Frag} {t : TS} {E : XK} {es : List Sl} {c : Addr} {m : Option Str} {g : Str} (h : m = some g) (k : SMX K t E es c m) : SEvX K t E es c g := k g h
theorem exm_self {K : PySem.W.Frag} {S : Addr} (h1 : PySem.W.subIn K (.ref S) (.type "BaseException") = some true) (h2 : PySem.W.isClsIn K S = true) (h3 : PySem.W.typeIn K (.ref S) = some (.type "type")) (h4 : PySem.W.subIn K (.ref S) (.ref S) = some true) :
    PySem.W.exmOne K (.ref S) (.ref S) = some true := by
  have e1 : (PySem.W.subIn K (.ref S) (.type "BaseException") == some true) = true := by rw [h1] <;> rfl
  have e2 : ((PySem.W.clsIn K S).isSome && PySem.W.typeIn K (.ref S) == some (.type "type")) = true := by
    have h2' : (PySem.W.clsIn K S).isSome = true := h2
    rw [h2', h3] <;> rfl
  show (if (PySem.W.subIn K (.ref S) (.type "BaseException") == some true) = true then (if ((PySem.W.clsIn K S).isSome && PySem.W.typeIn K (.ref S) == some (.type "type")) = true then PySem.W.subIn K (.ref S) (.ref S) else none) else none) = some true
  rw [if_pos e1, if_pos e2]
  exact h4
section
variable {X : Cx} {k n : Nat} {f C : Addr} {fd : FuncData} {ps ks : List Str} {sp : Sp} {x nm : Str} {p pos : Pos} {e : Expr} {es : List Expr} {kws : List Keyword} {t tk : TA} {g : List Value → List Value → List Value} {gV : List V → List V → List V}
theorem sm_tryF {R : Type} {K : PySem.W.Frag} {es : List Sl} {tc : (L2.St → XK) → TE} {rest : TS} {ts : Addr → Value → Option Addr → TS} {c : Addr} {i : Nat} {x : Option Str} {m : Option (Fl Unit R)} {hm : Str → Option (Fl Unit R)} {env : Unit → List Sl} {ed : R → Dt} {ee : R → List Sl}
    (he : PySem.W.exmOne K (.ref c) (.ref c) = some true) (hu : es[i]? = some .un) (he2 : (env ())[i]? = some .un) (hx : ∀ f, x = some f → XvE K tc es c f) (hn : x = none → ∀ E, SM K (tSeq (tDrop (tc E)) rest) es m (loopRes env ed ee))
    (hh : ∀ a dd f, SMH K a dd i f (ts a (.ref c) (some dd)) es (hm f) (loopRes env ed ee)) :
    SM K (fun D σ H => (fun W => tSeq (tDrop (tc (WE W))) rest) (wAs K (.ref c) i ts (fun _ _ _ _ => False) D) D σ H) es (tryX x hm m) (loopRes env ed ee) :=
  sm_try he ⟨_, hu, rfl⟩ hx hn hh (fun r fs h => by
    cases r with
    | nx s => cases h; exact he2
    | bk s => cases h; exact he2
    | rt r => cases h) (fun r => by
    cases r with
    | nx s => exact .inl ⟨_, rfl⟩
    | bk s => exact .inl ⟨_, rfl⟩
    | rt r => exact .inr ⟨_, _, rfl⟩)
/-- a call that may raise, in a def that lets it out -/
theorem smx_callS {K : PySem.W.Frag} {E : XK} {es : List Sl} {c : Addr} {sp : Sp} {ta : TA} {E' : L2.St → XK} {tz : TS} {x m : Option Str} (hE : E' = fun _ => E) (hx : ∀ f, x = some f → XvE K (fun E => tCallS sp E ta) es c f) (hn : x = none → SMX K (tSeq (tDrop (tCallS sp E' ta)) tz) E es c m) :
    SMX K (tSeq (tDrop (tCallS sp E' ta)) tz) E es c (tryX x some m) := fun f e F G H σ D s q => by
  cases x with
  | none => exact hn rfl f e F G H σ D s q
  | some g =>
    have e : some g = some f := e
    cases e
    subst hE
    exact hx _ rfl F G H σ s _ (fun _ => E) fun dd G' H' s' g' h1 f1 n1 => q dd G' H' s'.f s'.g s'.dj g' h1 f1 n1
theorem smx_drop {K : PySem.W.Frag} {E : XK} {es : List Sl} {c : Addr} {te : TE} {d : Dt} {tz : TS} {m : Option Str} (h : Ev K te es d) (k : SMX K tz E es c m) : SMX K (tSeq (tDrop te) tz) E es c m := fun r e F G H σ D s q =>
  h F G H σ s _ fun v G1 H1 s1 g1 r1 => k r e F G1 H1 _ D s1 (q.up g1)
/-- the call of a try's body -/
def PBody (X : Cx) (call : Expr) (tc : (St → XK) → TE) : Prop := ∀ (W : WX) (pn : List (Addr × Obj)) (xe : Value → Shared → Prop), Takes (X.tr pn xe) W → PE (X.tr pn xe) call (tc (WE W))
theorem pb_call (F : FnOk X.prog X.w X.K X.mg X.base (L2.CX X.prog X.w) k f fd ps sp) (hr : Room k X.A) (hg : Gl X x) (hm : X.mg x = some (.ref f)) (hk : PySem.W.keepIn X.K (.ref f) = true) (hb : Binds X.K fd ps [])
    (ha : ∀ pn xe, PA (X.tr pn xe) (e :: es) t) (hdb : (x == ("__debug__" : Str)) = false := by decide) (he : starEach (e :: es) X.env = (false, eval e X.env) :: starEach es X.env := by rfl) (hpl : (backTo pos (starEach es X.env)).any (·.1) = false := by rfl) :
    PBody X (.Call (.Name x p) (e :: es) [] pos) (fun E => tCallS sp E t) := fun W pn xe tk => pe_callS (X := X.tr pn xe) F hr hg hm hk hb (fun σ => passAt tk σ) (ha pn xe) hdb he hpl
theorem pb_callN (F : FnOk X.prog X.w X.K X.mg X.base (L2.CX X.prog X.w) k f fd ps sp) (hr : Room k X.A) (hg : Gl X x) (hm : X.mg x = some (.ref f)) (hk : PySem.W.keepIn X.K (.ref f) = true) (hb : KBn X.K fd ps n ks g gV)
    (ha : ∀ pn xe, PA (X.tr pn xe) (e :: es) t) (hkw : ∀ pn xe, PK (X.tr pn xe) kws tk) (hall : (backToKw pos (keywordEach kws X.env)).all (·.1.isSome) = true := by rfl) (hks : (backToKw pos (keywordEach kws X.env)).filterMap (·.1) = ks := by rfl)
    (hdb : (x == ("__debug__" : Str)) = false := by decide) (he : starEach (e :: es) X.env = (false, eval e X.env) :: starEach es X.env := by rfl)
    (hpl : ((backTo pos (starEach (e :: es) X.env)).any (·.1) || (backToKw pos (keywordEach kws X.env)).any (·.1.isNone)) = false := by rfl) :
    PBody X (.Call (.Name x p) (e :: es) kws pos) (fun E => tCallNS n ks.length sp gV E t tk) := fun W pn xe tk' => pe_callNS (X := X.tr pn xe) F hr hg hm hk hb (fun σ => passAt tk' σ) (ha pn xe) (hkw pn xe) hall hks hdb he hpl
theorem pb_make (M : Mk X.K C f) (F : FnOk X.prog X.w X.K X.mg X.base (L2.CX X.prog X.w) k f fd ps sp) (hr : Room (k + 1) X.A) (hg : Gl X x) (hm : X.mg x = some (.ref C)) (hb : Binds X.K fd ps [])
    (ha : ∀ pn xe, PA (X.tr pn xe) (e :: es) t) (hdb : (x == ("__debug__" : Str)) = false := by decide) (he : starEach (e :: es) X.env = (false, eval e X.env) :: starEach es X.env := by rfl) (hpl : (backTo pos (starEach es X.env)).any (·.1) = false := by rfl) :
    PBody X (.Call (.Name x p) (e :: es) [] pos) (fun E => tMakeS C sp E t) := fun W pn xe tk => pe_makeS (X := X.tr pn xe) M F hr hg hm hb (fun σ => passAt tk σ) (ha pn xe) hdb he hpl
/-- an except suite -/
def PHand (X : Cx) (body : List Stmt) (ts : Addr → Value → Option Addr → TS) : Prop := ∀ (a : Addr) (oe : Obj) (cls : Value) (d : Option Addr) (pn : List (Addr × Obj)), Zc cls d oe → (∃ vs, oe.data = .fields vs) → PSs (X.suite a ((a, oe) :: pn)) body (ts a cls d)
variable {fI : Addr} {i : Nat} {eo : Expr} {p2 p3 p4 p5 : Pos} {s0 : Str} {te : TE} {rest : List Stmt} {kk : Nat}
/-- return e.field -/
theorem ph_ret (T : PySem.DLX.ExcT X.prog X.K X.mg nm C fI) (he : ∀ a pn, PE (X.suite a pn) eo (tVar i)) (hb : attributeBase eo "field" X.env (eval eo X.env) = eval eo X.env := by rfl) :
    PHand X [.Return (some (.Attribute eo "field" p)) p2] (fun a cls d => tSeq (tRet (tXf a cls d C "field" (tVar i))) tNext) := fun a oe cls d pn hz hf =>
  pss_cons (ps_ret (pe_xf (xfC_of T) T.noN hz hf (he _ _) hb)) pss_nil
/-- return e.field == '..' -/
theorem ph_retEq (T : PySem.DLX.ExcT X.prog X.K X.mg nm C fI) (he : ∀ a pn, PE (X.suite a pn) eo (tVar i)) (hb : attributeBase eo "field" X.env (eval eo X.env) = eval eo X.env := by rfl) :
    PHand X [.Return (some (.Compare (.Attribute eo "field" p) [.Eq] [.Constant (.str s0) kk p3] p4)) p2] (fun a cls d => tSeq (tRet (tOp rEq (tXf a cls d C "field" (tVar i)) (tC (.str s0)))) tNext) := fun a oe cls d pn hz hf =>
  pss_cons (ps_ret (pe_cmpR op_eq (pe_xf (xfC_of T) T.noN hz hf (he _ _) hb) pe_str (nomark _))) pss_nil
/-- if e.field != '..': return .. -/
theorem ph_ifNe (T : PySem.DLX.ExcT X.prog X.K X.mg nm C fI) (he : ∀ a pn, PE (X.suite a pn) eo (tVar i)) (hrt : ∀ a pn, PSs (X.suite a pn) rest t') (hb : attributeBase eo "field" X.env (eval eo X.env) = eval eo X.env := by rfl) :
    PHand X [.If (.Compare (.Attribute eo "field" p) [.NotEq] [.Constant (.str s0) kk p3] p4) rest [] p2] (fun a cls d => tSeq (tIfS (tB (tOp rNe (tXf a cls d C "field" (tVar i)) (tC (.str s0)))) t' tNext) tNext) := fun a oe cls d pn hz hf =>
  pss_cons (ps_if (pt_cmpR op_ne (pe_xf (xfC_of T) T.noN hz hf (he _ _) hb) pe_str (nomark _)) (hrt _ _) pss_nil) pss_nil
variable {b₀ : Stmt} {suite : List Stmt} {np pos' pos2 pos3 : Pos} {call : Expr} {tc : (St → XK) → TE} {ts : Addr → Value → Option Addr → TS} {trest : TS} {y : Str}
/-- try: call; rest / except C as e: suite -/
theorem ps_try (T : PySem.DLX.ExcT X.prog X.K X.mg nm C fI) (hs : X.stack = X.env :: X.outer) (hf : X.env.frame = some X.env.locals) (hN : X.N.Nodup) (hi : X.N[i]? = some y) (hln : X.env.kindOf y = some .local) (hg : Gl X nm) (hdb : (nm == ("__debug__" : Str)) = false)
    (hb : PBody X call tc) (hr : ∀ pn xe, PSs (X.tr pn xe) rest trest) (hh : PHand X (b₀ :: suite) ts) (hsw : ∀ pn xe, swapsWith call none pos3.line (X.tr pn xe).env = pure false := by intro _ _; rfl) :
    PS X (.Try (.Expr call pos3 :: rest) [.ExceptHandler (some (.Name nm np)) (some y) (b₀ :: suite) pos'] [] [] pos) (fun D σ H => (fun W => tSeq (tDrop (tc (WE W))) trest) (wAs X.K (.ref C) i ts (fun _ _ _ _ => False) D) D σ H) :=
  ps_try_as hs hf hN hi hln ⟨hg, hdb, .inl T.gC⟩ takes0 (fun W pn xe tk _ => pss_cons (ps_expr (hb W pn xe tk) (hsw pn xe)) (hr pn xe)) hh
end
end L2

/-! Dl11: comprehensions of several clauses -/
namespace DL
open PySem PySem.Spec PyProof.Rows L2
/-- what a clause does with the list at D, up to N -/
abbrev BD := L2.St → Hp → Addr → (Hp → Prop) → Prop
def bElt (tt : TT) (te : TE) : BD := fun σ H D N => tt σ H fun b H1 => if b = true then te σ H1 fun y H2 => ∃ acc, H2 D = some (.lst acc) ∧ acc.length < sizeLine ∧ N (upd H2 D (.lst (acc ++ [y]))) else N H1
def bLoop (J : It) (g : TG) (vs : List Nat) (b : BD) : BD := fun σ H D N => ∃ W : Nat → Nat → Hp → Prop, (∃ m, W 0 m H) ∧ ∀ i m H1, W i m H1 →
  (J.stop i H1 ∧ N H1) ∨ (J.go i H1 ∧ ∃ N1 : Hp → Prop, (∀ H', N1 H' → ∃ m', m' < m ∧ W (i + 1) m' H') ∧ ∀ x H', J.yld i H1 x H' → g x (L2.wipe σ vs) H' fun σ2 H2 => L2.wipe σ2 vs = L2.wipe σ vs ∧ b σ2 H2 D N1)
def bFor (tt : TT) (wi : TI) (g : TG) (vs : List Nat) (b : BD) : BD := fun σ H D N => tt σ H fun c H1 => if c = true then wi σ H1 fun J H2 => bLoop J g vs b σ H2 D N else N H1
def tCmp (wi : TI) (g : TG) (vs : List Nat) (b : BD) : TE := fun σ H Q => wi σ H fun J H1 => ∀ D, H1 D = none → bLoop J g vs b σ (upd H1 D (.lst [])) D fun H2 => Q (.ref D) H2
abbrev NoX : Value → Shared → Prop := fun _ _ => False
abbrev BP := (Shared → Prop) → Shared → Prop
section
variable (M : Model) (A : Around) (env : Env)
def ifsK (ifs : List Expr) (k : Bool → Shared → Prop) (s : Shared) : Prop :=
  wpAny M A (forIn ifs true fun c r => if r = true then do let ok ← isTrue c env (eval c env); pure (ForInStep.yield ok) else pure (ForInStep.yield r)) k NoX s
def bpElt (ifs : List Expr) (elt : Expr) (acc : Value) : BP := fun P => ifsK M A env ifs fun ok s3 => if ok = true then wpAny M A (eval elt env) (fun x s4 => wpAny M A (call (.builtin "list.append") [acc, x]) (fun _ s5 => P s5) NoX s4) NoX s3 else P s3
def bpFor (ifs : List Expr) (i1 : Expr) (acc : Value) (e : Expr) (k1 : Nat) : BP := fun P => ifsK M A env ifs fun ok s3 => if ok = true then wpAny M A (eval i1 env) (fun x s4 => wpAny M A (pyIter x) (fun it s5 =>
  codeAny M A (.compStart e k1 it acc env) (fun r s' => match r with | .ok _ => P s' | .error _ => False) s5) NoX s4) NoX s3 else P s3
/-- a clause's loop, by what its turns keep -/
def LoopR (e : Expr) (k : Nat) (t : Expr) (acc : Value) (B : BP) : Prop := ∀ (it : Value) (R : Result → Shared → Prop) (I : Nat → Shared → Prop),
  (∀ n s, I n s → wpAny M A (pyNext it) (fun r s1 => match r with
    | none => R (.ok .next) s1
    | some v => wpAny M A (letOwnedTupleGo t it v) (fun _ s2 => wpAny M A (assign t env v) (fun _ s3 => B (fun s' => ∃ m, m < n ∧ I m s') s3) NoX s2) NoX s1) NoX s) →
  ∀ n s, I n s → codeAny M A (.compLoop e k it acc env) R s
def StartR (e : Expr) (k : Nat) (acc : Value) : Prop := ∀ (it : Value) (R : Result → Shared → Prop) (s : Shared), codeAny M A (.compLoop e k it acc env) R s →
  wpAny M A (pyIter it) (fun it' s' => codeAny M A (.compLoop e k it' acc env) R s') NoX s → codeAny M A (.compStart e k it acc env) R s
end
section
variable {prog : Program} {w : World} {A : Around} {env : Env} {t elt i1 : Expr} {gs : List Comprehension} {scope : Scope} {pos : Pos} {k k1 : Nat} {ifs : List Expr} {acc : Value} {p p1 : Pos}
theorem noX {α : Type} {M : Model} {m : Sem α} {Q Q' : α → Shared → Prop} {E : Value → Shared → Prop} {s : Shared} (h : wpAny M A m Q NoX s) (hq : ∀ a s', Q a s' → Q' a s') : wpAny M A m Q' E s := wpAny_mono h hq fun _ _ z => z.elim
theorem loop_elt (hq : ∀ it, compTurn (.ListComp elt gs scope pos) k it acc env = (do
      standAt p
      match ← pyNext it with
      | none => pure (.done .next)
      | some v =>
        letOwnedTupleGo t it v
        assign t env v
        let mut ok := true
        for c in ifs do
          if ok then ok ← isTrue c env (eval c env)
        if ok then
          (do let _ ← call (.builtin "list.append") [acc, ← eval elt env])
        again (.compLoop (.ListComp elt gs scope pos) k it acc env))) : LoopR (model prog w) A env (.ListComp elt gs scope pos) k t acc (bpElt (model prog w) A env ifs elt acc) := fun it R I turn n s h => by
  refine codeAny_loop rfl I (fun n s hI => ?_) n h
  show wpAny _ A ((compTurn (.ListComp elt gs scope pos) k it acc env).onRaise fun x => do noteFrame x env; theTreesLotGoes x) _ _ s
  refine wpAny_noted ?_
  rw [hq it]
  refine wpAny_bind (wpAny_standAt (wpAny_bind (noX (turn n s hI) fun r s1 h1 => ?_)))
  cases r with
  | none => exact wpAny_pure h1
  | some v =>
    refine wpAny_bind (noX h1 fun _ s2 h2 => wpAny_bind (noX h2 fun _ s3 h3 => wpAny_bind (noX h3 fun ok s4 h4 => ?_)))
    cases ok with
    | false => exact wpAny_pure ⟨rfl, h4⟩
    | true => exact wpAny_bind (wpAny_bind (noX h4 fun x s5 h5 => wpAny_bind (noX h5 fun _ s6 h6 => wpAny_pure (wpAny_pure ⟨rfl, h6⟩))))
theorem loop_for (hs : ∀ x, foldedSetIterable i1 env x = pure x) (hq : ∀ it, compTurn (.ListComp elt gs scope pos) k it acc env = (do
      standAt p
      match ← pyNext it with
      | none => pure (.done .next)
      | some v =>
        letOwnedTupleGo t it v
        assign t env v
        let mut ok := true
        for c in ifs do
          if ok then ok ← isTrue c env (eval c env)
        if ok then
          let x ← eval i1 env
          standAt p1
          let x ← foldedSetIterable i1 env x
          let _ ← runOwn (.compStart (.ListComp elt gs scope pos) k1 (← holding [x] (pyIter x)) acc env) env
        again (.compLoop (.ListComp elt gs scope pos) k it acc env))) : LoopR (model prog w) A env (.ListComp elt gs scope pos) k t acc (bpFor (model prog w) A env ifs i1 acc (.ListComp elt gs scope pos) k1) := fun it R I turn n s h => by
  refine codeAny_loop rfl I (fun n s hI => ?_) n h
  show wpAny _ A ((compTurn (.ListComp elt gs scope pos) k it acc env).onRaise fun x => do noteFrame x env; theTreesLotGoes x) _ _ s
  refine wpAny_noted ?_
  rw [hq it]
  refine wpAny_bind (wpAny_standAt (wpAny_bind (noX (turn n s hI) fun r s1 h1 => ?_)))
  cases r with
  | none => exact wpAny_pure h1
  | some v =>
    refine wpAny_bind (noX h1 fun _ s2 h2 => wpAny_bind (noX h2 fun _ s3 h3 => wpAny_bind (noX h3 fun ok s4 h4 => ?_)))
    cases ok with
    | false => exact wpAny_pure ⟨rfl, h4⟩
    | true =>
      refine wpAny_bind (noX h4 fun x s5 h5 => wpAny_bind (wpAny_standAt (wpAny_bind (wpAny_of_eq (hs x) (wpAny_bind (wpAny_holding (noX h5 fun it1 s6 h6 => ?_)))))))
      refine wpAny_bind (wpAny_runOwn ?_)
      rw [Around.mark_none]
      refine codeAny_mono h6 fun r s' hr => ?_
      cases r with
      | error x => exact hr.elim
      | ok f =>
        first
          | exact wpAny_pure ⟨rfl, hr⟩
          | exact wpAny_bind (wpAny_pure (wpAny_pure ⟨rfl, hr⟩))
end
section
variable {Y : Cx} {D : Addr}
/-- a clause's part, as the model runs it -/
structure PB (Y : Cx) (D : Addr) (B : BP) (b : BD) (vs : List Nat) : Prop where
  run : ∀ (pins : List (Addr × Obj)) (s : Shared) (σ : L2.St) (H : Hp) (N : Hp → Prop) (P : Shared → Prop), Inv Y pins σ H s → b σ H D N →
    (∀ s' σ' H', Inv Y pins σ' H' s' → (L2.wipe σ vs).length = σ'.length → (∀ (j : Nat) v, (L2.wipe σ vs)[j]? = some (some v) → σ'[j]? = some (some v)) → N H' → P s') → B P s
theorem pb_elt {ifs : List Expr} {elt : Expr} {tt : TT} {te : TE} (hx : Y.xe = NoX) (pt : PTs Y ifs tt) (pe : PE Y elt te) : PB Y D (bpElt (model Y.prog Y.w) Y.A Y.env ifs elt (.ref D)) (bElt tt te) [] := ⟨fun pins s σ H N P I h k => by
  have r := pt.run pins s σ H _ I h
  rw [hx] at r
  refine noX r fun b s1 ⟨H1, I1, q1⟩ => ?_
  cases b with
  | false => exact k s1 σ H1 I1 rfl (fun _ _ z => z) q1
  | true =>
    have r2 := pe.run _ s1 σ H1 _ I1 q1
    rw [hx] at r2
    exact noX r2 fun z s2 ⟨y, H2, I2, ry, acc, hD, hz, nx⟩ => app_ok I2 hD hz ry fun s3 I3 => k s3 σ _ I3 rfl (fun _ _ z => z) nx⟩
theorem loop_run {t e : Expr} {k : Nat} {B : BP} {b : BD} {vb vs : List Nat} {g : TG} {J : It} {fp : List Addr} {it : Addr} {tn : Nat → Heap → Prop} {pins : List (Addr × Obj)} {s : Shared} {σ : L2.St} {H : Hp} {N : Hp → Prop} {R : Result → Shared → Prop}
    (hc : Y.calm = true) (hx : Y.xe = NoX) (pg : PG Y t g) (lr : LoopR (model Y.prog Y.w) Y.A Y.env e k t (.ref D) B) (pb : PB Y D B b vb) (hv : ∀ j ∈ vb, j ∈ vs) (T : Turn Y.prog Y.w Y.K t J fp it tn)
    (hst : ∀ s' H', Inv Y pins (L2.wipe σ vs) H' s' → (∀ b ∈ fp, H' b = none) → ∀ b ∈ fp, FpOk Y pins H' b) (I : Inv Y pins (L2.wipe σ vs) H s) (h0 : tn 0 s.heap) (hn : ∀ b ∈ fp, H b = none) (h : bLoop J g vs b σ H D N)
    (hend : ∀ s' H', Inv Y pins (L2.wipe σ vs) H' s' → N H' → R (.ok .next) s') : codeAny (model Y.prog Y.w) Y.A (.compLoop e k (.ref it) (.ref D) Y.env) R s := by
  obtain ⟨W, ⟨m0, w0⟩, turn⟩ := h
  refine lr (.ref it) R (fun n s' => ∃ i H', Inv Y pins (L2.wipe σ vs) H' s' ∧ tn i s'.heap ∧ (∀ b ∈ fp, H' b = none) ∧ W i n H') ?_ m0 s ⟨0, H, I, h0, hn, w0⟩
  rintro n s1 ⟨i, H1, I1, t1, n1, w1⟩
  rcases turn i n H1 w1 with ⟨st, q⟩ | ⟨go, N1, hN, step⟩
  · refine noX (T.done Y rfl rfl rfl hc i pins s1 _ H1 NoX I1 (hst _ _ I1 n1) t1 st) fun r s2 ⟨hr, I2⟩ => ?_
    subst hr
    exact hend _ _ I2 q
  · refine noX (T.item Y rfl rfl rfl hc i pins s1 _ H1 NoX I1 (hst _ _ I1 n1) t1 go) fun r s2 ⟨u, hr, h2⟩ => ?_
    subst hr
    refine noX h2 fun _ s3 ⟨x, H3, I3, r3, y3, t3, n3⟩ => ?_
    have r4 := pg.run _ s3 _ H3 x u _ (I3.pinned (hst _ _ I3 n3) (T.obj _ _ t3)) r3 (step x H3 y3)
    rw [hx] at r4
    refine noX r4 fun _ s4 ⟨σ4, H4, I4, w4, q4⟩ => pb.run _ s4 σ4 H4 N1 _ I4 q4 fun s5 σ5 H5 I5 l5 k5 nx => ?_
    obtain ⟨m', hm, w5⟩ := hN H5 nx
    have keep : ∀ b ∈ fp, ∀ o, s3.heap.get? b = some o → s5.heap.get? b = some o ∧ H5 b = none := fun b hb o eo =>
      let z := I5.pin (b, o) (List.mem_append_right _ (List.mem_append_right _ (mem_pinsAt hb eo)))
      ⟨z.1, z.2.1⟩
    refine ⟨m', hm, i + 1, H5, I5.unpinned.weak ?_ fun j v ej => ?_, T.keep _ _ _ t3 fun b hb o eo => (keep b hb o eo).1, fun b hb => ?_, w5⟩
    · rw [← w4, wipe_length, ← l5, wipe_length]
    · rw [← w4] at ej
      obtain ⟨a, c⟩ := wipe_some ej
      refine k5 j v ?_
      rw [wipe_out fun z => c (hv j z)]
      exact a
    · obtain ⟨o, eo, _⟩ := T.obj _ _ t3 b hb
      exact (keep b hb o eo).2
theorem pb_for {t1 i1 e : Expr} {k1 : Nat} {ifs : List Expr} {tt : TT} {wi : TI} {g : TG} {B1 : BP} {b : BD} {vb vs : List Nat} (hc : Y.calm = true) (hx : Y.xe = NoX) (pt : PTs Y ifs tt) (pi : PI Y t1 i1 wi) (pg : PG Y t1 g)
    (lr : LoopR (model Y.prog Y.w) Y.A Y.env e k1 t1 (.ref D) B1) (sr : StartR (model Y.prog Y.w) Y.A Y.env e k1 (.ref D)) (pb : PB Y D B1 b vb) (hv : ∀ j ∈ vb, j ∈ vs) :
    PB Y D (bpFor (model Y.prog Y.w) Y.A Y.env ifs i1 (.ref D) e k1) (bFor tt wi g vs b) vs := ⟨fun pins s σ H N P I h k => by
  have r := pt.run pins s σ H _ I h
  rw [hx] at r
  refine noX r fun c s1 ⟨H1, I1, q1⟩ => ?_
  cases c with
  | false => exact k s1 σ H1 I1 (wipe_length _ _) (fun j v z => (wipe_some z).1) q1
  | true =>
    have r2 := pi.run _ s1 σ H1 _ I1 q1
    rw [hx] at r2
    refine noX r2 fun v s2 h2 => noX h2 fun itv s3 h3 => ?_
    obtain ⟨it, fp, tn, J, H3, ev, I3, T, t3, f3, hl⟩ := h3
    subst ev
    have hl' : bLoop J g vs b σ H3 D N := hl
    have lp : codeAny (model Y.prog Y.w) Y.A (.compLoop e k1 (.ref it) (.ref D) Y.env) (fun r s' => match r with | .ok _ => P s' | .error _ => False) s3 :=
      loop_run hc hx pg lr pb hv T (fun s' H' _ hn b hb => ⟨hn b hb, (f3 b hb).2⟩) (I3.weak (wipe_length _ _) fun j v z => (wipe_some z).1) t3 (fun b hb => (f3 b hb).1) hl' fun s' H' I' nx => k s' _ H' I' rfl (fun _ _ z => z) nx
    exact sr _ _ _ lp (T.self Y.A 0 _ _ _ t3 lp)⟩
end
section
variable {X : Cx} {pins : List (Addr × Obj)} {s : Shared} {σ : L2.St} {H : Hp} {Q : VK}
theorem cmp_core {elt tg iter : Expr} {ifs : List Expr} {rest : List Comprehension} {scope : Scope} {own : List (Str × Nat)} {pos pos' : Pos} {wi : TI} {g : TG} {b : BD} {vb : List Nat} {use : Option (Value → Sem Unit)} {Qf : Value → Shared → Prop}
    (hc : X.calm = true) (hN : X.N.Nodup) (I : Inv X pins σ H s) (hi : PI X tg iter wi) (ok : BlkOk X.N X.env.scope scope own) (hv : ∀ j ∈ vb, j ∈ own.map (·.2)) (hs : ∀ x, foldedSetIterable iter X.env x = pure x)
    (hg : ∀ (s : Shared) (H : Hp) (C : Addr) (cl : List (Str × Addr)) (fp : List Addr), PG (X.blk s H scope (compEnvC scope cl C X.env) fp) tg g)
    (hb : ∀ (s : Shared) (H : Hp) (C : Addr) (cl : List (Str × Addr)) (fp : List Addr) (D : Addr), ∃ B : BP, LoopR (model X.prog X.w) X.A (compEnvC scope cl C X.env) (.ListComp elt (⟨tg, iter, ifs, 0⟩ :: rest) scope pos) 0 tg (.ref D) B ∧ PB (X.blk s H scope (compEnvC scope cl C X.env) fp) D B b vb)
    (h : tCmp wi g (own.map (·.2)) b σ H Q)
    (hRR : ∀ D C s' m H', Inv X pins σ H' s' → Q (.ref D) H' → s'.heap.Ns C m → FpOk X pins H' C → compPost (model X.prog X.w) X.A X.xe use Qf (.ref D) C (.ok .next) s') :
    wpAny (model X.prog X.w) X.A (comprehension (.ListComp elt (⟨tg, iter, ifs, 0⟩ :: rest) scope pos) scope X.env pos' (newList []) false (eval iter X.env) use) Qf X.xe s := by
  refine wpAny_comprehension_free (use := use) rfl hs (closure_ok fun y hy ey => (ok.free y hy ey).elim (fun z => I.ok.has _ (.inl z)) fun z => I.ok.has _ (.inr z)) ok.kind (fun y hy ey => by rw [ok.uniq y hy, ey])
    (thn (hi.run pins s σ H _ I h) fun v s1 h1 => thn h1 fun itv s2 h2 => ?_)
  obtain ⟨it, fp, tn, J, H2, ev, I2, T, t2, f2, q⟩ := h2
  subst ev
  refine wpAny_newObj_type (newEnv_comp ?_) (by show 0 ≤ sizeLine; decide)
  generalize hD : s2.heap.objs.size = D
  have lp0 := q D (I2.hok.fresh (Nat.le_of_eq hD))
  generalize es3 : ({ s2 with heap := s2.heap.push { cls := .type "list", data := .seq ([] : List Value).toArray } } : Shared) = s3
  have hp3 : s3.heap = s2.heap.push { cls := .type "list", data := .seq ([] : List Value).toArray } := by rw [← es3]
  have I3 : Inv X pins σ (upd H2 D (.lst [])) s3 := by
    rw [← es3]
    refine I2.laid (t' := s2.toks) (fun b o eo => Heap.get?_push_of_some _ eo) (Nat.le_of_eq hD) ⟨Nat.zero_le _, [], 0, .nil, ?_⟩
    rw [← hD]
    exact Heap.get?_push_size _ rfl
  have f3 : ∀ a ∈ fp, FpOk X pins (upd H2 D (.lst [])) a ∧ a < s3.heap.objs.size := fun a ha => by
    obtain ⟨o, eo, _⟩ := T.obj _ _ t2 a ha
    have lt := Heap.lt_size eo
    refine ⟨⟨?_, (f2 a ha).2⟩, ?_⟩
    · rw [upd_ne (fun z => absurd lt (by rw [z, ← hD]; exact Nat.lt_irrefl _))]
      exact (f2 a ha).1
    · rw [hp3, Heap.size_push]
      exact Nat.lt_succ_of_lt lt
  have t3 : tn 0 s3.heap := T.keep _ _ _ t2 fun b _ o eo => by rw [hp3]; exact Heap.get?_push_of_some _ eo
  generalize hH3 : upd H2 D (.lst []) = H3 at I3 f3 lp0
  have I4 := block_start I3 ok hN f3
  obtain ⟨B, lr, pb⟩ := hb s3 H3 s3.heap.objs.size (cellsFrom (s3.heap.objs.size + 1) scope.names (cloFrom X.env.cells scope.names [])) fp D
  have pg := hg s3 H3 s3.heap.objs.size (cellsFrom (s3.heap.objs.size + 1) scope.names (cloFrom X.env.cells scope.names [])) fp
  show codeAny _ _ (.compStart (.ListComp elt (⟨tg, iter, ifs, 0⟩ :: rest) scope pos) 0 (.ref it) (.ref D) (compEnvC scope (cellsFrom (s3.heap.objs.size + 1) scope.names (cloFrom X.env.cells scope.names [])) s3.heap.objs.size X.env)) (compPost (model X.prog X.w) X.A X.xe use Qf (.ref D) s3.heap.objs.size) { s3 with heap := pushCells (s3.heap.push { cls := .type "dict", data := .dict #[] }) scope.names }
  generalize ece : compEnvC scope (cellsFrom (s3.heap.objs.size + 1) scope.names (cloFrom X.env.cells scope.names [])) s3.heap.objs.size X.env = ce at I4 lr pb pg ⊢
  have cL : ce.locals = s3.heap.objs.size := by subst ece; rfl
  generalize es4 : ({ s3 with heap := pushCells (s3.heap.push { cls := .type "dict", data := .dict #[] }) scope.names } : Shared) = s4 at I4 ⊢
  have t4 : tn 0 s4.heap := T.keep _ _ _ t3 fun b _ o eo => by rw [← es4]; exact pushCells_keeps _ _ _ _ (Heap.get?_push_of_some _ eo)
  have lp : codeAny (model X.prog X.w) X.A (.compLoop (.ListComp elt (⟨tg, iter, ifs, 0⟩ :: rest) scope pos) 0 (.ref it) (.ref D) ce) (compPost (model X.prog X.w) X.A X.xe use Qf (.ref D) s3.heap.objs.size) s4 := by
    refine loop_run (Y := X.blk s3 H3 scope ce fp) hc rfl pg lr pb hv T (fun s' H' I' hn a ha => ⟨hn a ha, (I'.ok.exf a ha).1, I'.ok.exfs a ha, .inl ha, fun x c z => (I'.ok.exf a ha).2 x c z, fun p hp => absurd (show p ∈ ([] : List (Addr × Obj)) ++ [] from hp) (by simp)⟩) I4 t4 (fun a ha => (f3 a ha).1.1) lp0 fun s6 H6 I6 q6 => ?_
    have I7 : Inv X pins σ H6 s6 := I3.call' (ch := fp) I6.os I6.base I6.hok I6.bare fun a ha => ⟨(f3 a ha).1.2.2.2.1, (f3 a ha).1.2.1, (f3 a ha).1.2.2.2.2.1, (f3 a ha).1.2.2.2.2.2⟩
    have nC : H6 s3.heap.objs.size = none := by
      have z : H6 ce.locals = none := I6.free
      rw [cL] at z
      exact z
    obtain ⟨m, hn, _⟩ := I6.loc
    have hn : s6.heap.Ns ce.locals m := hn
    rw [cL] at hn
    exact hRR D s3.heap.objs.size s6 m H6 I7 q6 hn (I3.fpOk (Nat.le_refl _) nC)
  exact codeAny_compStart_list lp (T.self X.A 0 _ _ _ t4 lp)
theorem pe_cmp {elt tg iter : Expr} {ifs : List Expr} {rest : List Comprehension} {scope : Scope} {own : List (Str × Nat)} {pos : Pos} {wi : TI} {g : TG} {b : BD} {vb : List Nat}
    (hc : X.calm = true) (hN : X.N.Nodup) (hi : PI X tg iter wi) (ok : BlkOk X.N X.env.scope scope own) (hv : ∀ j ∈ vb, j ∈ own.map (·.2))
    (hg : ∀ (s : Shared) (H : Hp) (C : Addr) (cl : List (Str × Addr)) (fp : List Addr), PG (X.blk s H scope (compEnvC scope cl C X.env) fp) tg g)
    (hb : ∀ (s : Shared) (H : Hp) (C : Addr) (cl : List (Str × Addr)) (fp : List Addr) (D : Addr), ∃ B : BP, LoopR (model X.prog X.w) X.A (compEnvC scope cl C X.env) (.ListComp elt (⟨tg, iter, ifs, 0⟩ :: rest) scope pos) 0 tg (.ref D) B ∧ PB (X.blk s H scope (compEnvC scope cl C X.env) fp) D B b vb)
    (hs : ∀ x, foldedSetIterable iter X.env x = pure x := by intro _; rfl) :
    PE X (.ListComp elt (⟨tg, iter, ifs, 0⟩ :: rest) scope pos) (tCmp wi g (own.map (·.2)) b) := by
  refine ⟨fun pins s σ H Q I h => ?_⟩
  rw [eval_ListComp]
  refine cmp_core hc hN I hi ok hv hs hg hb h fun D C s' m H' I' q hn f => ⟨m, hn, fun h'' sb => ?_⟩
  obtain ⟨f0, f1, f2, f3, f4, f5⟩ := f
  exact ⟨.ref D, H', I'.turned (t' := s'.toks) (fun b o hb eo => (sb.2 b hb).trans eo) f0 f1 f3 f4 f5, rfl, q⟩
end
section
variable {prog : Program} {w : World} {A : Around} {env : Env} {elt t0 i0 t1 i1 t2 i2 : Expr} {ifs0 ifs1 ifs2 : List Expr} {scope : Scope} {pos : Pos} {acc : Value}
theorem start3_1 : StartR (model prog w) A env (.ListComp elt [⟨t0, i0, ifs0, 0⟩, ⟨t1, i1, ifs1, 0⟩, ⟨t2, i2, ifs2, 0⟩] scope pos) 1 acc := fun it R s h0 h => by
  refine codeAny_of_tree ?_
  show wpAny _ _ ((compStart _ 1 it acc env).onRaise fun x => do noteFrame x env; standAt theWindowsPlace) _ _ s
  refine wpAny_notedAt ?_
  unfold compStart
  show wpAny _ _ (ask >>= _) _ _ s
  refine wpAny_bind (wpAny_askSetting (wpAny_ite ?_))
  split
  · first
      | exact wpAny_bind (wpAny_pure (wpAny_pure (And.intro rfl h0)))
      | exact wpAny_pure (And.intro rfl h0)
  · refine wpAny_bind (wpAny_rule ?_)
    show wpAny _ _ (standAt i1.pos >>= _) _ _ s
    exact wpAny_bind (wpAny_standAt (wpAny_bind (noX h fun it' s' h' => wpAny_pure (And.intro rfl h'))))
theorem start3_2 : StartR (model prog w) A env (.ListComp elt [⟨t0, i0, ifs0, 0⟩, ⟨t1, i1, ifs1, 0⟩, ⟨t2, i2, ifs2, 0⟩] scope pos) 2 acc := fun it R s h0 h => by
  refine codeAny_of_tree ?_
  show wpAny _ _ ((compStart _ 2 it acc env).onRaise fun x => do noteFrame x env; standAt theWindowsPlace) _ _ s
  refine wpAny_notedAt ?_
  unfold compStart
  show wpAny _ _ (ask >>= _) _ _ s
  refine wpAny_bind (wpAny_askSetting (wpAny_ite ?_))
  split
  · first
      | exact wpAny_bind (wpAny_pure (wpAny_pure (And.intro rfl h0)))
      | exact wpAny_pure (And.intro rfl h0)
  · refine wpAny_bind (wpAny_rule ?_)
    show wpAny _ _ (standAt i2.pos >>= _) _ _ s
    exact wpAny_bind (wpAny_standAt (wpAny_bind (noX h fun it' s' h' => wpAny_pure (And.intro rfl h'))))
theorem start2_1 : StartR (model prog w) A env (.ListComp elt [⟨t0, i0, ifs0, 0⟩, ⟨t1, i1, ifs1, 0⟩] scope pos) 1 acc := fun it R s h0 h => by
  refine codeAny_of_tree ?_
  show wpAny _ _ ((compStart _ 1 it acc env).onRaise fun x => do noteFrame x env; standAt theWindowsPlace) _ _ s
  refine wpAny_notedAt ?_
  unfold compStart
  show wpAny _ _ (ask >>= _) _ _ s
  refine wpAny_bind (wpAny_askSetting (wpAny_ite ?_))
  split
  · first
      | exact wpAny_bind (wpAny_pure (wpAny_pure (And.intro rfl h0)))
      | exact wpAny_pure (And.intro rfl h0)
  · refine wpAny_bind (wpAny_rule ?_)
    show wpAny _ _ (standAt i1.pos >>= _) _ _ s
    exact wpAny_bind (wpAny_standAt (wpAny_bind (noX h fun it' s' h' => wpAny_pure (And.intro rfl h'))))
end
section
variable {X : Cx} {elt t0 i0 t1 i1 t2 i2 : Expr} {ifs0 ifs1 ifs2 : List Expr} {scope : Scope} {own : List (Str × Nat)} {pos : Pos} {wi wi1 wi2 : TI} {g g1 g2 : TG} {tt tt1 tt2 : TT} {te : TE} {vs1 vs2 : List Nat}
theorem pe_cmp3 (hc : X.calm = true) (hN : X.N.Nodup) (hi : PI X t0 i0 wi) (ok : BlkOk X.N X.env.scope scope own) (hv : ∀ j ∈ vs1, j ∈ own.map (·.2)) (hv2 : ∀ j ∈ vs2, j ∈ vs1)
    (hg : ∀ (s : Shared) (H : Hp) (C : Addr) (cl : List (Str × Addr)) (fp : List Addr), PG (X.blk s H scope (compEnvC scope cl C X.env) fp) t0 g)
    (ht : ∀ (s : Shared) (H : Hp) (C : Addr) (cl : List (Str × Addr)) (fp : List Addr), PTs (X.blk s H scope (compEnvC scope cl C X.env) fp) ifs0 tt)
    (hi1 : ∀ (s : Shared) (H : Hp) (C : Addr) (cl : List (Str × Addr)) (fp : List Addr), PI (X.blk s H scope (compEnvC scope cl C X.env) fp) t1 i1 wi1)
    (hg1 : ∀ (s : Shared) (H : Hp) (C : Addr) (cl : List (Str × Addr)) (fp : List Addr), PG (X.blk s H scope (compEnvC scope cl C X.env) fp) t1 g1)
    (ht1 : ∀ (s : Shared) (H : Hp) (C : Addr) (cl : List (Str × Addr)) (fp : List Addr), PTs (X.blk s H scope (compEnvC scope cl C X.env) fp) ifs1 tt1)
    (hi2 : ∀ (s : Shared) (H : Hp) (C : Addr) (cl : List (Str × Addr)) (fp : List Addr), PI (X.blk s H scope (compEnvC scope cl C X.env) fp) t2 i2 wi2)
    (hg2 : ∀ (s : Shared) (H : Hp) (C : Addr) (cl : List (Str × Addr)) (fp : List Addr), PG (X.blk s H scope (compEnvC scope cl C X.env) fp) t2 g2)
    (ht2 : ∀ (s : Shared) (H : Hp) (C : Addr) (cl : List (Str × Addr)) (fp : List Addr), PTs (X.blk s H scope (compEnvC scope cl C X.env) fp) ifs2 tt2)
    (he : ∀ (s : Shared) (H : Hp) (C : Addr) (cl : List (Str × Addr)) (fp : List Addr), PE (X.blk s H scope (compEnvC scope cl C X.env) fp) elt te)
    (hs : ∀ x, foldedSetIterable i0 X.env x = pure x := by intro _; rfl) (hs1 : ∀ env x, foldedSetIterable i1 env x = pure x := by intro _ _; rfl) (hs2 : ∀ env x, foldedSetIterable i2 env x = pure x := by intro _ _; rfl) :
    PE X (.ListComp elt [⟨t0, i0, ifs0, 0⟩, ⟨t1, i1, ifs1, 0⟩, ⟨t2, i2, ifs2, 0⟩] scope pos) (tCmp wi g (own.map (·.2)) (bFor tt wi1 g1 vs1 (bFor tt1 wi2 g2 vs2 (bElt tt2 te)))) :=
  pe_cmp hc hN hi ok hv hg (fun s H C cl fp D => ⟨_, loop_for (p := i0.pos) (p1 := i1.pos) (hs1 _) (fun it => rfl), pb_for hc rfl (ht s H C cl fp) (hi1 s H C cl fp) (hg1 s H C cl fp) (loop_for (p := i1.pos) (p1 := i2.pos) (hs2 _) (fun it => rfl)) start3_1
    (pb_for hc rfl (ht1 s H C cl fp) (hi2 s H C cl fp) (hg2 s H C cl fp) (loop_elt (p := i2.pos) (fun it => rfl)) start3_2 (pb_elt rfl (ht2 s H C cl fp) (he s H C cl fp)) (fun _ z => nomatch z)) hv2⟩) hs
theorem pe_cmp2 (hc : X.calm = true) (hN : X.N.Nodup) (hi : PI X t0 i0 wi) (ok : BlkOk X.N X.env.scope scope own) (hv : ∀ j ∈ vs1, j ∈ own.map (·.2))
    (hg : ∀ (s : Shared) (H : Hp) (C : Addr) (cl : List (Str × Addr)) (fp : List Addr), PG (X.blk s H scope (compEnvC scope cl C X.env) fp) t0 g)
    (ht : ∀ (s : Shared) (H : Hp) (C : Addr) (cl : List (Str × Addr)) (fp : List Addr), PTs (X.blk s H scope (compEnvC scope cl C X.env) fp) ifs0 tt)
    (hi1 : ∀ (s : Shared) (H : Hp) (C : Addr) (cl : List (Str × Addr)) (fp : List Addr), PI (X.blk s H scope (compEnvC scope cl C X.env) fp) t1 i1 wi1)
    (hg1 : ∀ (s : Shared) (H : Hp) (C : Addr) (cl : List (Str × Addr)) (fp : List Addr), PG (X.blk s H scope (compEnvC scope cl C X.env) fp) t1 g1)
    (ht1 : ∀ (s : Shared) (H : Hp) (C : Addr) (cl : List (Str × Addr)) (fp : List Addr), PTs (X.blk s H scope (compEnvC scope cl C X.env) fp) ifs1 tt1)
    (he : ∀ (s : Shared) (H : Hp) (C : Addr) (cl : List (Str × Addr)) (fp : List Addr), PE (X.blk s H scope (compEnvC scope cl C X.env) fp) elt te)
    (hs : ∀ x, foldedSetIterable i0 X.env x = pure x := by intro _; rfl) (hs1 : ∀ env x, foldedSetIterable i1 env x = pure x := by intro _ _; rfl) :
    PE X (.ListComp elt [⟨t0, i0, ifs0, 0⟩, ⟨t1, i1, ifs1, 0⟩] scope pos) (tCmp wi g (own.map (·.2)) (bFor tt wi1 g1 vs1 (bElt tt1 te))) :=
  pe_cmp hc hN hi ok hv hg (fun s H C cl fp D => ⟨_, loop_for (p := i0.pos) (p1 := i1.pos) (hs1 _) (fun it => rfl), pb_for hc rfl (ht s H C cl fp) (hi1 s H C cl fp) (hg1 s H C cl fp) (loop_elt (p := i1.pos) (fun it => rfl)) start2_1
    (pb_elt rfl (ht1 s H C cl fp) (he s H C cl fp)) (fun _ z => nomatch z)⟩) hs
end
end DL
namespace DL
open PySem PySem.Spec PyProof.Rows L2
theorem pi_tupK {X : Cx} {K : PySem.W.Frag} {tg l : Expr} {tl : TE} (hl : PE X l tl) (hK : X.K = K) : PI X tg l (iTup K tl) := hK ▸ pi_tup hl
theorem pi_listK {X : Cx} {K : PySem.W.Frag} {tg l : Expr} {tl : TE} (hl : PE X l tl) (hK : X.K = K) : PI X tg l (iList K tl) := hK ▸ pi_list hl
/-! the heap-free side -/
def flatO {α γ : Type} : List α → (α → Option (List γ)) → Option (List γ)
  | [], _ => some []
  | x :: xs, f => (f x).bind fun a => (flatO xs f).bind fun b => some (a ++ b)
def flatC {α γ : Type} (xs : List α) (f : α → Option (List γ)) : Option (List γ) := (flatO xs f).bind fun zs => if xs.length + zs.length ≤ 1000000 then some zs else none
/-- a clause appends ds -/
def EvB (K : PySem.W.Frag) (b : BD) (es : List Sl) (ds : List Dt) : Prop := ∀ (F G H : Hp) (σ : L2.St) (D : Addr) (acc : List V), Stt K (upd F D (.lst acc)) G H σ es → acc.length + ds.length ≤ 1000000 →
  ∀ N : Hp → Prop, (∀ G' H' vs, Stt K (upd F D (.lst (acc ++ vs))) G' H' σ es → Same G G' → Reps K G' vs ds → N H') → b σ H D N
section
variable {K : PySem.W.Frag} {es : List Sl} {α β γ : Type}
theorem flatO_cons {x : α} {xs : List α} {f : α → Option (List γ)} {zs : List γ} (h : flatO (x :: xs) f = some zs) : ∃ a b, f x = some a ∧ flatO xs f = some b ∧ zs = a ++ b := by
  unfold flatO at h
  cases p : f x with
  | none => rw [p] at h; cases h
  | some a =>
    rw [p] at h
    cases q : flatO xs f with
    | none =>
      rw [q] at h
      cases h
    | some b =>
      rw [q] at h
      exact ⟨a, b, rfl, rfl, (Option.some.inj h).symm⟩
theorem ec_pure {te : TE} {em2 : β → Dt} {y : β} (h : Ev K te es (em2 y)) : ∀ ys, some [y] = some ys → EvB K (bElt tYes te) es (ys.map em2) := fun ys e F G H σ D acc s hz N q => by
  cases e
  refine h _ G H σ s _ fun v G1 H1 s1 g1 r1 => ?_
  have sz : (1000000 : Nat) < sizeLine := by decide
  rw [List.length_map, List.length_singleton] at hz
  exact ⟨acc, s1.f D _ upd_same, by omega, q G1 _ [v] s1.reprot g1 (.cons r1 .nil)⟩
theorem ec_bnd {α β : Type} {b : BD} {em2 : β → Dt} {m : Option α} {f : α → Option (List β)} (h : ∀ x, m = some x → ∀ ys, f x = some ys → EvB K b es (ys.map em2)) : ∀ ys, m.bind f = some ys → EvB K b es (ys.map em2) := fun ys e => by
  cases p : m with
  | none => rw [p] at e; cases e
  | some x =>
    rw [p] at e
    exact h x p ys e
/-- a clause's loop -/
theorem eb_turns {J : It} {g : TG} {vs : List Nat} {b : BD} {xs : List α} {em : α → Dt} {em2 : β → Dt} {en2 : α → List Sl} {f : α → Option (List β)} {zs : List β} {F G G1 H1 : Hp} {σ : L2.St} {D : Addr} {acc : List V} {N : Hp → Prop}
    (hg : ∀ x, EvG K g vs (wipeS es vs) (em x) (en2 x)) (hb : ∀ x, ∀ ys, f x = some ys → EvB K b (en2 x) (ys.map em2)) (hd : es.all (fun t => !t.isOwn) = true) (h : flatO xs f = some zs)
    (hy : Yields K J G (xs.map em)) (s : Stt K (upd F D (.lst acc)) G1 H1 σ es) (g0 : Same G G1) (hz : acc.length + zs.length ≤ 1000000)
    (q : ∀ G' H' us, Stt K (upd F D (.lst (acc ++ us))) G' H' σ es → Same G1 G' → Reps K G' us (zs.map em2) → N H') : bLoop J g vs b σ H1 D N := by
  refine ⟨fun i m H' => ∃ (G' : Hp) (us : List V) (ys rest : List β), Stt K (upd F D (.lst (acc ++ us))) G' H' σ es ∧ Same G1 G' ∧ Reps K G' us (ys.map em2) ∧ flatO (xs.drop i) f = some rest ∧ ys ++ rest = zs ∧ m = xs.length - i ∧ i ≤ xs.length,
    ⟨_, G1, [], [], zs, by rw [List.append_nil]; exact s, Same.refl _, .nil, h, rfl, rfl, Nat.zero_le _⟩, ?_⟩
  rintro i m H' ⟨G', us, ys, rest, st', g', ru, hc, hap, rfl, hle⟩
  by_cases hlt : i < xs.length
  · refine .inr ?_
    rw [List.drop_eq_getElem_cons hlt] at hc
    obtain ⟨a, r2, ea, er, rfl⟩ := flatO_cons hc
    obtain ⟨go, yld⟩ := (hy i _ G' H' σ es (g0.trans g') st').1 (em xs[i]) (by rw [List.getElem?_map, List.getElem?_eq_getElem hlt]; rfl)
    refine ⟨go, fun H2 => ∃ (G2 : Hp) (us2 : List V) (ys2 : List β), Stt K (upd F D (.lst (acc ++ us2))) G2 H2 σ es ∧ Same G1 G2 ∧ Reps K G2 us2 (ys2.map em2) ∧ ys2 ++ r2 = zs,
      fun H2 ⟨G2, us2, ys2, a1, a2, a3, a4⟩ => ⟨xs.length - (i + 1), by omega, G2, us2, ys2, r2, a1, a2, a3, er, a4, rfl, by omega⟩, fun x H2 hx => ?_⟩
    obtain ⟨G2, st2, g2, rx⟩ := yld x H2 hx
    refine hg xs[i] _ G2 H2 (L2.wipe σ vs) x (st2.wipe vs) rx _ fun σ3 G3 H3 st3 g3 l3 k3 => ?_
    refine ⟨by rw [wipe_ext (σ := L2.wipe σ vs) l3 k3]; exact wipe_ext (wipe_length _ _) fun k hk => wipe_get hk, ?_⟩
    have lu := ru.length
    rw [List.length_map] at lu
    have lz : ys.length + (a.length + r2.length) = zs.length := by rw [← hap, List.length_append, List.length_append]
    refine hb xs[i] a ea F G3 H3 σ3 D _ st3 (by rw [List.length_append, List.length_map]; omega) _ fun G4 H4 vs4 st4 g4 r4 => ?_
    have gg : Same G' G4 := g2.trans (g3.trans g4)
    refine ⟨G4, us ++ vs4, ys ++ a, ?_, g'.trans gg, ?_, by rw [List.append_assoc]; exact hap⟩
    · rw [← List.append_assoc]
      have swp : ∀ {F1 F2 Ga Ha Gb Hb : Hp} {τ τ2 : L2.St} {e1 e2 : List Sl}, Stt K F1 Ga Ha τ e1 → e1.all (fun t => !t.isOwn) = true → Stt K F2 Gb Hb τ2 e2 → Same Ga Gb → Stt K F2 Gb Hb τ e1 := fun {F1 F2 Ga Ha Gb Hb τ τ2 e1 e2} s hd s2 g => {
        f := s2.f, g := s2.g, dj := s2.dj, len := s.len, sp := s.sp
        sl := fun i t e => by
          obtain ⟨x, hx, k⟩ := s.sl i t e
          refine ⟨x, hx, ?_⟩
          have := List.all_eq_true.mp hd t (List.mem_of_getElem? e)
          cases t with
          | un => trivial
          | d x =>
            obtain ⟨v, e, r⟩ := k
            exact ⟨v, e, r.mono g⟩
          | own _ _ => cases this
          | obo _ _ _ => cases this
          | prv _ => cases this }
      exact swp st2 hd st4 (g3.trans g4)
    · rw [List.map_append]
      exact (ru.mono gg).append r4
  · have e3 : i = xs.length := by omega
    subst e3
    refine .inl ⟨(hy xs.length _ G' H' σ es (g0.trans g') st').2 (by simp), ?_⟩
    rw [List.drop_length] at hc
    cases hc
    rw [List.append_nil] at hap
    subst hap
    exact q G' H' us st' g' ru
theorem eb_loop {wi : TI} {g : TG} {vs : List Nat} {b : BD} {xs : List α} {em : α → Dt} {em2 : β → Dt} {en2 : α → List Sl} {f : α → Option (List β)} (hi : EvI K wi es (xs.map em)) (hg : ∀ x, EvG K g vs (wipeS es vs) (em x) (en2 x))
    (hb : ∀ x, ∀ ys, f x = some ys → EvB K b (en2 x) (ys.map em2)) (hd : es.all (fun t => !t.isOwn) = true) : ∀ ys, flatO xs f = some ys → EvB K (bFor tYes wi g vs b) es (ys.map em2) := fun ys h F G H σ D acc s hz N q =>
  hi _ G H σ s _ fun J G1 H1 s1 g1 y => eb_turns (G := G1) hg hb hd h y s1 (Same.refl _) (by rw [List.length_map] at hz; exact hz) fun G' H' us st' g' r' => q G' H' us st' (g1.trans g') r'
theorem el_flat {wi : TI} {g : TG} {vs : List Nat} {b : BD} {xs : List α} {em : α → Dt} {em2 : β → Dt} {en2 : α → List Sl} {f : α → Option (List β)} {zs : List β} (hi : EvI K wi es (xs.map em)) (hg : ∀ x, EvG K g vs (wipeS es vs) (em x) (en2 x))
    (hb : ∀ x, ∀ ys, f x = some ys → EvB K b (en2 x) (ys.map em2)) (hd : es.all (fun t => !t.isOwn) = true) (h : flatC xs f = some zs) : EvL K (tCmp wi g vs b) es (zs.map em2) := fun F G H σ st Q q => by
  unfold flatC at h
  cases p : flatO xs f with
  | none => rw [p] at h; cases h
  | some ys =>
    rw [p] at h
    have h : (if xs.length + ys.length ≤ 1000000 then some ys else none) = some zs := h
    by_cases hz : xs.length + ys.length ≤ 1000000
    · rw [if_pos hz] at h
      cases h
      refine hi F G H σ st _ fun J G1 H1 s1 g1 y => fun D hD => ?_
      have hF : F D = none := s1.fnone hD
      refine eb_turns (acc := []) (G := G1) hg hb hd p y (s1.prot hD) (Same.refl _) (by simp only [List.length_nil]; omega) fun G' H' us st' g' r' => q D us G' H' ?_ hF (g1.trans g') r'
      exact st'
    · rw [if_neg hz] at h
      cases h
end
end DL

/-! Dl12: max(xs, default=None); lists of values that may be left out -/
namespace DL
open PySem PySem.Spec PyProof.Rows L2
section
variable {prog : Program} {w : World} {A : Around} {I : Addr} {fp wr : List Addr} {n : Nat} {P : Nat → Value → Prop} {St : Nat → Heap → Prop} {bt : Nat → Nat → Bool} {S : Addr} {d : Value} {R : Result → Shared → Prop}
def maxKw (d : Value) : List (Str × Value) := [(Str.ofString "default", d)]
/-- the walk of max with a default: S holds nothing, or the best so far twice -/
theorem maxD_walk (W : Walks prog w A.in1 I fp wr n P St) (hcmp : CmpOf prog w A.in1 .Gt P bt) (hSf : S ∉ fp) : ∀ (k j : Nat) (s : Shared) (c : Nat) (its : Array Value), n - j = k → j ≤ n → St j s.heap →
    ((j = 0 ∧ its = #[]) ∨ ∃ i v, j = i + 1 ∧ its = #[v, v] ∧ P (argBest bt i) v) → s.heap.get? S = some { cls := .type "list", dict := none, data := .seq its c, slots := #[] } →
    (∀ v h' tk, ((n = 0 ∧ v = d) ∨ (0 < n ∧ P (argBest bt (n - 1)) v)) → (∀ b o, b ∉ wr → b ≠ S → s.heap.get? b = some o → h'.get? b = some o) → R (.ok (.ret v)) { s with heap := h', toks := tk }) →
    codeAny (model prog w) A (.builtin "max.loop" ⟨[.ref I, .none, .ref S], maxKw d⟩) R s := by
  have hSw : S ∉ wr := fun h => hSf (W.sub _ h)
  have nm : (toString "max" ++ toString ".loop" : String) = "max.loop" := by decide
  have oth : ∀ {a : Addr} {g : Heap} {f : Obj → Obj}, a ≠ S → (g.update S f).get? a = g.get? a := fun h => Heap.get?_update_other _ _ (Ne.symm h)
  intro k
  induction k with
  | zero =>
    intro j s c its hk hj st hits hS hR
    obtain rfl : j = n := by omega
    refine codeAny_builtin F.entry_max_loop ?_
    rw [Around.under_plainId F.plain_max_loop _]
    show wpAny _ A.in1 (seqItems? (.ref S) >>= _) _ _ s
    refine wpAny_bind (wpAny_seqItems hS rfl ?_)
    show wpAny _ A.in1 (tryCatch (pyNext (.ref I)) _ >>= _) _ _ s
    refine wpAny_bind (wpAny_tryCatch (W.done s _ _ st fun h' tk keep => ?_))
    rcases hits with ⟨rfl, rfl⟩ | ⟨i, v, rfl, rfl, pv⟩
    · show wpAny _ A.in1 (rule _ >>= _) _ _ _
      exact wpAny_bind (wpAny_rule (wpAny_pure (hR d _ tk (.inl ⟨rfl, rfl⟩) fun b o hb _ e => keep b o hb e)))
    · show wpAny _ A.in1 (updateSeq S (fun _ => #[]) >>= _) _ _ _
      refine wpAny_bind ?_
      refine wpAny_updateSeq (keep S _ hSw hS) rfl (wpAny_bind (wpAny_letGo (wpAny_pure ?_)))
      exact hR v _ tk (.inr ⟨Nat.succ_pos _, pv⟩) fun b o hb hbS e => (oth hbS).trans (keep b o hb e)
  | succ k ih =>
    intro j s c its hk hj st hits hS hR
    have lt : j < n := by omega
    refine codeAny_builtin F.entry_max_loop ?_
    rw [Around.under_plainId F.plain_max_loop _]
    show wpAny _ A.in1 (seqItems? (.ref S) >>= _) _ _ s
    refine wpAny_bind (wpAny_seqItems hS rfl ?_)
    show wpAny _ A.in1 (tryCatch (pyNext (.ref I)) _ >>= _) _ _ s
    refine wpAny_bind (wpAny_tryCatch (W.item j s _ _ lt st fun u h' tk pu st' keep => ?_))
    have hS' := keep S _ hSw hS
    rcases hits with ⟨rfl, rfl⟩ | ⟨i, v, rfl, rfl, pv⟩
    · show wpAny _ A.in1 (updateSeq S (fun _ => #[u, u]) >>= _) _ _ _
      refine wpAny_bind ?_
      refine wpAny_updateSeq hS' rfl ?_
      rw [nm]
      refine wpAny_pure ⟨plainId_quiet F.plain_max_loop _, ih 1 _ _ _ (by omega) lt (W.frame _ _ _ st' fun b hb o e => (oth fun z => hSf (by rw [← z]; exact hb)).trans e) (.inr ⟨0, u, rfl, rfl, pu⟩) (Heap.get?_update_self _ hS' rfl) fun v' h2 tk2 hv k2 => ?_⟩
      exact hR v' h2 tk2 hv fun b o hb hbS e => k2 b o hb hbS ((oth hbS).trans (keep b o hb e))
    · show wpAny _ A.in1 (tryCatch (holding [u, u] (richCompare .Gt u v >>= _)) _ >>= _) _ _ _
      refine wpAny_bind (wpAny_tryCatch (wpAny_holding (wpAny_bind (hcmp (i + 1) (argBest bt i) u v _ _ _ pu pv ?_))))
      refine wpAny_bind (wpAny_holding (wpAny_truthy_bool (wpAny_bind (wpAny_letGo (wpAny_pure ?_)))))
      cases hb : bt (i + 1) (argBest bt i) with
      | true =>
        rw [if_pos rfl]
        refine wpAny_bind ?_
        refine wpAny_updateSeq hS' rfl (wpAny_bind (wpAny_letGo ?_))
        rw [nm]
        refine wpAny_pure ⟨plainId_quiet F.plain_max_loop _, ih (i + 2) _ _ _ (by omega) lt (W.frame _ _ _ st' fun b hbf o e => (oth fun z => hSf (by rw [← z]; exact hbf)).trans e) (.inr ⟨i + 1, u, rfl, rfl, ?_⟩) (Heap.get?_update_self _ hS' rfl) fun v' h2 tk2 hv k2 => ?_⟩
        · simp only [argBest, hb, if_true]
          exact pu
        · exact hR v' h2 tk2 hv fun b o hbw hbS e => k2 b o hbw hbS ((oth hbS).trans (keep b o hbw e))
      | false =>
        rw [if_neg Bool.false_ne_true]
        refine wpAny_bind (wpAny_letGo ?_)
        rw [nm]
        refine wpAny_pure ⟨plainId_quiet F.plain_max_loop _, ih (i + 2) _ c _ (by omega) lt st' (.inr ⟨i + 1, v, rfl, rfl, ?_⟩) hS' fun v' h2 tk2 hv k2 => ?_⟩
        · simp only [argBest, hb, Bool.false_eq_true, if_false]
          exact pv
        · exact hR v' h2 tk2 hv fun b o hbw hbS e => k2 b o hbw hbS (keep b o hbw e)
end
section
variable {prog : Program} {w : World} {A : Around} {E : Value → Shared → Prop} {s : Shared} {l : Addr} {its : List Value} {ns : List Int} {Q : Value → Shared → Prop} {d : Value}
theorem maxD_args (a d : Value) : argsOk "max" ⟨[a], maxKw d⟩ := by unfold argsOk; kernel_rfl
theorem maxD_call (hh : A.handled = none) (hl : s.heap.IsList l its.toArray) (hi : IntsAre its ns)
    (h : ∀ h' tk v, (∀ b o, s.heap.get? b = some o → h'.get? b = some o) → ((ns = [] ∧ v = d) ∨ ∃ m t, v = .int m t ∧ m ∈ ns ∧ ∀ a, a ∈ ns → a ≤ m) → Q v { s with heap := h', toks := tk }) : wpAny (model prog w) A (call (.builtin "max") [.ref l] (maxKw d)) Q E s := by
  obtain ⟨xs, e⟩ := hi.allInts.items
  have hn : numsOf (intItems xs).toList = ns := by rw [← e]; exact hi.numsOf
  rw [nums_intItems] at hn
  subst hn
  rw [e] at hl
  have nm : (toString "max" ++ toString ".loop" : String) = "max.loop" := by decide
  refine wpAny_call (codeAny_call_builtin F.plain_max F.entry_max ?_)
  have main : wpAny (model prog w) A.in1 (Builtin.«max» ⟨[.ref l], maxKw d⟩) (fun fin s' => match fin with
      | .done f => (match (Except.ok f : Result) with | .ok (.ret v) => Q v s' | .ok _ => False | .error e => E e s')
      | .again c' => c'.quiet = true ∧ codeAny (model prog w) A c' (fun r s' => match r with | .ok (.ret v) => Q v s' | .ok _ => False | .error e => E e s') s') E s := by
    show wpAny _ A.in1 (Builtin.Builtins.bindParams "max" ["key", "default"] 0 ⟨[], maxKw d⟩ >>= _) _ _ s
    refine wpAny_bind (wpAny_of_eq (show Builtin.Builtins.bindParams "max" ["key", "default"] 0 ⟨[], maxKw d⟩ = pure [none, some d] from rfl) ?_)
    refine wpAny_bind (wpAny_pure ?_)
    refine wpAny_bind (iter_intList hl fun s2 es st hfp hlI => ?_)
    refine wpAny_bind (wpAny_newObj_type ?_)
    have W : Walks prog w A.in1 s.heap.objs.size _ _ _ _ _ := Walks.list (A := A.in1) hh _ l hlI (intItems xs)
    have hSf : s2.heap.objs.size ∉ [s.heap.objs.size, l] := fun hm => Nat.lt_irrefl _ (hfp _ hm)
    rw [nm]
    refine wpAny_pure ⟨plainId_quiet F.plain_max_loop _, maxD_walk W (CmpOf.ints_gt (numAt xs) (fun _ _ => intItems_at)) hSf _ 0 _ _ _ rfl (Nat.zero_le _) (W.frame _ _ _ st fun b _ o e => Heap.get?_push_of_some _ e) (.inl ⟨rfl, rfl⟩) (Heap.get?_push_size _ rfl) fun v h' tk hv keep => ?_⟩
    subst es
    refine h h' tk v (fun b o eb => ?_) ?_
    · have lt : b < s.heap.objs.size := Heap.lt_size eb
      refine keep b o (fun hm => ?_) (fun z => ?_) (Heap.get?_push_of_some _ (Heap.get?_push_of_some _ eb))
      · rw [List.mem_singleton] at hm
        exact absurd (hm ▸ lt) (Nat.lt_irrefl _)
      · rw [z, Heap.size_push] at lt
        exact absurd lt (Nat.not_lt_of_le (Nat.le_succ _))
    · rcases hv with ⟨h0, hd⟩ | ⟨h0, hp⟩
      · refine .inl ⟨?_, hd⟩
        have : xs.size = 0 := by simpa [intItems] using h0
        rw [Array.eq_empty_of_size_eq_zero this]
        rfl
      · have hsz : 0 < xs.size := by simpa [intItems] using h0
        have hp : (intItems xs)[argBest (fun i j => decide (numAt xs i > numAt xs j)) (xs.size - 1)]? = some v := by simpa [intItems] using hp
        obtain ⟨t, rfl⟩ := intItems_at hp
        obtain ⟨h1, h2⟩ := argBest_gt (numAt xs) (xs.size - 1)
        refine .inr ⟨_, t, rfl, ?_, fun a ha => ?_⟩
        · rw [numAt_eq]; exact PySem.getD_mem (by rw [List.length_map, Array.length_toList]; omega)
        · obtain ⟨j, hj, rfl⟩ := mem_getD ha
          rw [List.length_map, Array.length_toList] at hj
          rw [← numAt_eq]; exact h2 j (by omega)
  simp only [checkBuiltinCall, F.kind_max]
  cases hsig : Manifest.signature? "max" with
  | none => exact wpAny_pure main
  | some sig =>
    have ha := maxD_args (.ref l) d
    simp only [argsOk, hsig] at ha
    have h2 : Bind.checkArgs "max" sig ⟨[.ref l], maxKw d⟩ = pure () := ha
    show wpAny _ A.in1 (Bind.checkArgs "max" sig ⟨[.ref l], maxKw d⟩) _ _ s
    rw [h2]
    exact wpAny_pure main
end
/-- max(xs, default=None) -/
def rMaxD (K : PySem.W.Frag) : List V → List V → Hp → VK → Prop := fun vs zs H Q => ∃ (a : Addr) (ns : List Int), vs = [V.ref a] ∧ zs = [.non] ∧ SqL K H a (ns.map V.int) ∧ (ns = [] → Q .non H) ∧ ∀ m, m ∈ ns → (∀ y, y ∈ ns → y ≤ m) → Q (.int m) H
theorem cr_maxD {X : Cx} (hc : X.calm = true) : CallRK X (.builtin "max") [Str.ofString "default"] (rMaxD X.K) := by
  intro pins s σ H xs zs us ws Q I r r2 h
  obtain ⟨a, ns, rfl, rfl, hs, q0, q⟩ := h
  obtain ⟨its, rv, hl, _⟩ := I.list hs
  rw [Vals.ref1 r]
  cases r2 with
  | cons r3 t3 =>
    cases t3
    cases r3
    refine maxD_call (d := .none) (I.ok.hd hc) hl.isList rv.ints fun h' tk v hk hv => ?_
    rcases hv with ⟨e, rfl⟩ | ⟨m, t, rfl, h1, h2⟩
    · exact ⟨.non, H, I.kept hk, rfl, q0 e⟩
    · exact ⟨.int _, H, I.kept hk, ⟨_, rfl⟩, q m h1 h2⟩
def maxDC (xs : List Int) : Option (Option Int) := if xs = [] then some none else (maxL xs).bind fun m => some (some m)
section
variable {K : PySem.W.Frag} {es : List Sl} {te : TE}
theorem ev_maxD {ns : List Int} {m : Option Int} (ha : Ev K te es (.lst (ns.map .int))) (h : maxDC ns = some m) : Ev K (tCKw (rMaxD K) (tCons te tNil) (tCons (tC .non) tNil)) es (dO Dt.int m) := fun F G H σ s Q q =>
  ha F G H σ s _ fun v G1 H1 s1 g1 r1 => by
    show rMaxD K [v] [.non] H1 Q
    cases r1 with
    | lst hh r =>
      have e := ints_of r
      subst e
      refine ⟨_, ns, rfl, rfl, s1.g.seq hh, fun e0 => ?_, fun k h1 h2 => ?_⟩
      · unfold maxDC at h
        rw [if_pos e0] at h
        cases h
        exact q _ G1 H1 s1 g1 .non
      · have ne : ns ≠ [] := fun e => by rw [e] at h1; cases h1
        unfold maxDC at h
        rw [if_neg ne] at h
        cases hm : maxL ns with
        | none => rw [hm] at h; cases h
        | some z =>
          rw [hm] at h
          cases h
          obtain ⟨k1, k2⟩ := maxL_spec hm
          have : k = z := Int.le_antisymm (k2 k h1) (h2 z k1)
          subst this
          exact q _ G1 H1 s1 g1 (.int _)
/-- a list none of whose values is left out -/
def allC {α : Type} : List (Option α) → Option (List α)
  | [] => some []
  | x :: xs => x.bind fun a => (allC xs).bind fun b => some (a :: b)
theorem allC_map {α : Type} {em : α → Dt} : ∀ {xs : List (Option α)} {ys : List α}, allC xs = some ys → xs.map (dO em) = ys.map em
  | [], ys, h => by cases h; rfl
  | x :: xs, ys, h => by
    unfold allC at h
    cases x with
    | none => cases h
    | some a =>
      have h : (allC xs).bind (fun b => some (a :: b)) = some ys := h
      cases p : allC xs with
      | none => rw [p] at h; cases h
      | some b =>
        rw [p] at h
        cases h
        rw [List.map_cons, List.map_cons, allC_map p]
        rfl
theorem ev_unL {α : Type} {em : α → Dt} {xs : List (Option α)} {ys : List α} (h : allC xs = some ys) (ha : Ev K te es (.lst (xs.map (dO em)))) : Ev K te es (.lst (ys.map em)) := by
  rw [← allC_map h]
  exact ha
/-- isinstance of a number that may be left out -/
theorem ev_isiOI {ta tb : TE} {o : Option Int} (ha : Ev K ta es (dO Dt.int o)) (hb : Ev K tb es (.ty "int")) : Ev K (tCB (rIsi K) (tCons ta (tCons tb tNil))) es (.bl o.isSome) := by
  cases o with
  | none => exact ev_isi (n := "int") (t := "NoneType") rfl (by decide) (by decide) (by decide +kernel) ha hb
  | some i => exact ev_isi (n := "int") (t := "int") (b := true) rfl (by decide) (by decide) (by decide +kernel) ha hb
theorem ev_isiOB {ta tb : TE} {o : Option Int} (ha : Ev K ta es (dO Dt.int o)) (hb : Ev K tb es (.ty "bool")) : Ev K (tCB (rIsi K) (tCons ta (tCons tb tNil))) es (.bl false) := by
  cases o with
  | none => exact ev_isi (n := "bool") (t := "NoneType") rfl (by decide) (by decide) (by decide +kernel) ha hb
  | some i => exact ev_isi (n := "bool") (t := "int") rfl (by decide) (by decide) (by decide +kernel) ha hb
end
/-! x in a tuple of data of any depth -/
def inD (a : Dt) (ds : List Dt) : Bool := ds.any fun z => eqD z a
theorem any_pds (a : Dt) : ∀ ds : List Dt, (pds ds).any (fun z => PyData.eqv z (pd a)) = inD a ds
  | [] => rfl
  | d :: ds => by
    show ((pd d :: pds ds).any fun z => PyData.eqv z (pd a)) = _
    rw [List.any_cons, any_pds a ds]
    rfl
section
variable {X : Cx}
def rInTD (K : PySem.W.Frag) (neg : Bool) : R2 := fun x y H Q => ∃ d ds, Dp K H x d ∧ Dp K H y (.tuple ds) ∧ (d.canLay0 = true ∧ d.depth ≤ 60) ∧ SeqAt.shaped (.tuple ds) = true ∧ Q (.bl (if neg = true then !ds.any (fun z => PyData.eqv z d) else ds.any fun z => PyData.eqv z d)) H
theorem room_inT {xs : List PyData} {d : PyData} {u : Nat} (sd : d.canLay0 = true ∧ d.depth ≤ 60) (hu : u + 64 < cLine) : u + 1 + min (PyData.depthAll xs) d.depth < cLine := by
  have := sd.2
  have := Nat.min_le_right (PyData.depthAll xs) d.depth
  omega
theorem op_inTD (hu : X.A.units + 64 < cLine) : OpR X (compareOp .In) (rInTD X.K false) := by
  intro pins s σ H x y v u Q I rx ry h
  obtain ⟨d, ds, hd, he, sd, se, q⟩ := h
  obtain ⟨as, r1⟩ := Dp.reads I d x v hd rx
  obtain ⟨bs, r2⟩ := Dp.reads I (.tuple ds) y u he ry
  exact SeqAt.in_tuple_reads r2 r1 (SeqAt.canLay_of_shaped se) sd.1 (room_inT sd hu) ⟨.bl _, H, I, rfl, q⟩
theorem op_ninTD (hu : X.A.units + 64 < cLine) : OpR X (compareOp .NotIn) (rInTD X.K true) := by
  intro pins s σ H x y v u Q I rx ry h
  obtain ⟨d, ds, hd, he, sd, se, q⟩ := h
  obtain ⟨as, r1⟩ := Dp.reads I d x v hd rx
  obtain ⟨bs, r2⟩ := Dp.reads I (.tuple ds) y u he ry
  exact SeqAt.notIn_tuple_reads r2 r1 (SeqAt.canLay_of_shaped se) sd.1 (room_inT sd hu) ⟨.bl _, H, I, rfl, q⟩
end
section
variable {K : PySem.W.Frag} {es : List Sl} {ta tb : TE} {a : Dt} {ds : List Dt}
theorem ev_inTD (sa : SH 60 a) (sb : SH 64 (.tup ds)) (ha : Ev K ta es a) (hb : Ev K tb es (.tup ds)) : Ev K (tOp (rInTD K false) ta tb) es (.bl (inD a ds)) := ev_op ha hb fun F G H σ es x y s rx ry Q q => by
  have e : pd (.tup ds) = .tuple (pds ds) := by simp only [pd]
  have d2 := sb.dp s.g ry
  have s2 := shaped_of sb
  rw [e] at d2 s2
  refine ⟨pd a, pds ds, sa.dp s.g rx, d2, sa.lay, s2, ?_⟩
  rw [any_pds]
  exact q _ G H s (Same.refl _) (.bl _)
theorem ev_ninTD (sa : SH 60 a) (sb : SH 64 (.tup ds)) (ha : Ev K ta es a) (hb : Ev K tb es (.tup ds)) : Ev K (tOp (rInTD K true) ta tb) es (.bl (!inD a ds)) := ev_op ha hb fun F G H σ es x y s rx ry Q q => by
  have e : pd (.tup ds) = .tuple (pds ds) := by simp only [pd]
  have d2 := sb.dp s.g ry
  have s2 := shaped_of sb
  rw [e] at d2 s2
  refine ⟨pd a, pds ds, sa.dp s.g rx, d2, sa.lay, s2, ?_⟩
  rw [any_pds]
  exact q _ G H s (Same.refl _) (.bl _)
end
end DL
namespace DL
open PySem PySem.Spec PyProof.Rows L2
/-! values of one of several classes; a suite's rest, way by way -/
abbrev dS {α β : Type} (e1 : α → Dt) (e2 : β → Dt) : α ⊕ β → Dt := Sum.elim e1 e2
/-- one statement, understood in two ways -/
def tAlt (t u : TS) : TS := fun D σ H => t D σ H ∨ u D σ H
theorem ps_alt {X : Cx} {st : Stmt} {t u : TS} (h1 : PS X st t) (h2 : PS X st u) : PS X st (tAlt t u) := ⟨fun pins s σ H D I h => h.elim (h1.run pins s σ H D I) (h2.run pins s σ H D I)⟩
section
variable {K : PySem.W.Frag} {es es' : List Sl} {ρ : Type} {t u tz : TS} {m : Option ρ} {oc : ρ → Res}
theorem sm_alt1 (h : SM K (tSeq t tz) es m oc) : SM K (tSeq (tAlt t u) tz) es m oc := fun r e F G H σ D s q => .inl (h r e F G H σ D s q)
theorem sm_alt2 (h : SM K (tSeq u tz) es m oc) : SM K (tSeq (tAlt t u) tz) es m oc := fun r e F G H σ D s q => .inr (h r e F G H σ D s q)
theorem sm_es (e : es = es') (h : SM K t es' m oc) : SM K t es m oc := e ▸ h
theorem sm_sum {α β : Type} {v : α ⊕ β} {ev : α ⊕ β → List Sl} {f : α → Option ρ} {g : β → Option ρ} (h1 : ∀ x, SM K t (ev (.inl x)) (f x) oc) (h2 : ∀ y, SM K t (ev (.inr y)) (g y) oc) : SM K t (ev v) (Sum.elim f g v) oc := by
  cases v with
  | inl x => exact h1 x
  | inr y => exact h2 y
theorem kit_other {C D : Addr} (k1 : PySem.W.mroIn K C (.ref D) = some false) (k2 : PySem.W.mroIn K C (.ref C) = some true) (k3 : PySem.W.isClsIn K D = true) (k4 : PySem.W.typeIn K (.ref D) = some (.type "type")) : PySem.W.kitOne K (.ref C) (.ref D) = some false := by
  have ne : ¬ (Value.ref C == Value.ref D) = true := fun h => by
    have e : Value.ref C = Value.ref D := beq_iff_eq.mp h
    cases e
    rw [k2] at k1
    cases k1
  unfold PySem.W.kitOne
  rw [if_neg ne]
  unfold PySem.W.kitCls
  have k3 : (PySem.W.clsIn K D).isSome = true := k3
  have c : ((PySem.W.clsIn K D).isSome && PySem.W.typeIn K (.ref D) == some (.type "type")) = true := by
    rw [k3, k4]
    decide
  exact (if_pos c).trans k1
/-- isinstance of an object of another class -/
theorem ev_isiF {ta : TE} {C D : Addr} {fs : List (Str × Dt)} (cl : Cls K C) (h1 : PySem.W.findIn K (.ref C) "__class__" = some (some (.builtin "object.__class__"))) (h2 : PySem.W.specialIn K (.builtin "object.__class__") "__get__" = some (some (.builtin "getset_descriptor.__get__")))
    (h3 : PySem.W.takesIn K (.builtin "object.__class__") = some true) (h4 : PySem.W.mroIn K C (.type "object") = some true) (k1 : PySem.W.mroIn K C (.ref D) = some false) (k2 : PySem.W.mroIn K C (.ref C) = some true) (k3 : PySem.W.isClsIn K D = true) (k4 : PySem.W.typeIn K (.ref D) = some (.type "type")) (ha : Ev K ta es (.obj C fs)) : Ev K (tCB (rIsi K) (tCons ta (tCons (tC (.ref D)) tNil))) es (.bl false) := fun F G H σ s Q q =>
  ha F G H σ s _ fun x G1 H1 s1 g1 r1 => by
    cases r1 with
    | obj h r => exact ⟨_, _, _, _, false, rfl, .own D, .base (.ins (s1.g _ _ h) cl h1 h2 h3 h4), kit_other k1 k2 k3 k4, q _ G1 H1 s1 g1 (.bl _)⟩
/-! range(a, b, c), c a written number from 1 on -/
def rngS (lo hi c : Int) : List Int := (List.range (Builtin.Range.rangeSize lo hi c).toNat).map fun (i : Nat) => lo + (i : Int) * c
def rngSC (lo hi c : Int) : Option (List Int) := if -(2 ^ 62) ≤ lo ∧ lo < 2 ^ 62 ∧ -(2 ^ 62) ≤ hi ∧ hi < 2 ^ 62 ∧ 0 < c ∧ c < 1000000 then some (rngS lo hi c) else none
theorem small_up {a b c : Int} (ha : -(2 ^ 62) ≤ a) (ha' : a < 2 ^ 62) (hb : -(2 ^ 62) ≤ b) (hb' : b < 2 ^ 62) (hc : 0 < c) (hc' : c < 1000000) : Builtin.Range.small a b c = true ∧ 0 ≤ Builtin.Range.rangeSize a b c := by
  unfold Builtin.Range.small Builtin.Range.rangeSize
  rw [if_pos (show c > 0 from hc)]
  have h0 : a < b → 0 ≤ (b - a - 1) / c ∧ (b - a - 1) / c ≤ b - a - 1 := fun h => ⟨Int.ediv_nonneg (by omega) (by omega), Int.ediv_le_self _ (by omega)⟩
  simp only [Builtin.Range.rangeFitsLong, Bool.and_eq_true, Bool.or_eq_true, decide_eq_true_eq, beq_iff_eq]
  split
  · rename_i h
    have := h0 h
    refine ⟨⟨by omega, .inr ?_⟩, by omega⟩
    rw [Bool.and_eq_true, decide_eq_true_eq, decide_eq_true_eq]
    omega
  · omega
theorem yields_rngS {G : Hp} {lo c : Int} {n : Nat} : Yields K (Itc lo c n) G (((List.range n).map fun (i : Nat) => lo + (i : Int) * c).map Dt.int) := fun i F G1 H1 σ es g s => by
  refine ⟨fun d e => ?_, fun e => by rw [List.length_map, List.length_map, List.length_range] at e; exact e⟩
  rw [List.getElem?_map, List.getElem?_map] at e
  by_cases hi : i < n
  · rw [List.getElem?_range hi] at e
    cases e
    refine ⟨hi, fun x H2 y => ?_⟩
    obtain ⟨e1, e2⟩ := y
    subst e1 e2
    exact ⟨G1, s, Same.refl _, .int _⟩
  · rw [List.getElem?_eq_none (by simpa using hi)] at e
    cases e
theorem ei_rngS {ta : TA} {lo hi c : Int} {xs : List Int} (h : EvA K ta es [.int lo, .int hi, .int c]) (e : rngSC lo hi c = some xs) : EvI K (iRng3 ta) es (xs.map Dt.int) := fun F G H σ s R q => h F G H σ s _ fun vs G1 H1 s1 g1 r1 => by
  obtain ⟨⟨a1, a2, a3, a4, a5, a6⟩, e⟩ := ite_some e
  subst e
  cases r1 with
  | cons ra rr =>
    cases ra
    cases rr with
    | cons rb rr =>
      cases rb
      cases rr with
      | cons rc rr =>
        cases rc
        cases rr
        obtain ⟨sm, z⟩ := small_up a1 a2 a3 a4 a5 a6
        exact ⟨lo, hi, c, _, rfl, ⟨by omega, by omega, sm, by omega⟩, q _ G1 H1 s1 g1 yields_rngS⟩
end
/-- an expression that is never reached -/
def tNevE : TE := fun _ _ _ => False
theorem pe_nev {X : Cx} {e : Expr} : PE X e tNevE := ⟨fun _ _ _ _ _ _ h => h.elim⟩
end DL

open PySem PySem.Spec PyProof.Rows L2
namespace DL
section
variable {K : PySem.W.Frag} {es : List Sl} {te : TE}
theorem ev_cutD {tl th : TO} {lo hi : Option Int} {ds : List Dt} (ha : Ev K te es (.tup ds)) (hl : EvO K tl es lo) (hh : EvO K th es hi) : Ev K (tSl (rSlA K) te tl th) es (.tup (cutL ds lo hi)) := fun F G H σ s Q q =>
  ha F G H σ s _ fun x G1 H1 s1 g1 r1 => hl F G1 H1 σ s1 _ fun G2 H2 s2 g2 => hh F G2 H2 σ s2 _ fun G3 H3 s3 g3 => by
    cases r1 with
    | tup h r =>
      have r := (r.mono g2).mono g3
      refine ⟨_, _, rfl, sqT_mono s3.g (sqT_mono g3 (sqT_mono g2 h)), fun hw => ?_, fun hw p hp => ?_⟩
      · refine q _ G3 H3 s3 (g1.trans (g2.trans g3)) ?_
        have e : cutL ds lo hi = ds := by
          unfold cutL
          rw [← r.length, hw.1, hw.2, List.drop_zero, Nat.sub_zero, List.take_of_length_le (by rw [r.length]; exact Nat.le_refl _)]
        rw [e]
        exact .tup (sqT_mono g3 (sqT_mono g2 h)) r
      · have hg := s3.gnone hp
        refine q _ _ _ (s3.new hp) (g1.trans (g2.trans (g3.trans (same_upd hg)))) (.tup (.inl (.inl upd_same)) (Reps.mono (same_upd hg) ?_))
        unfold cutV cutL
        rw [r.length]
        exact (r.drop _).take _
theorem ev_cutT {α : Type} {em : α → Dt} {tl th : TO} {lo hi : Option Int} {xs : List α} (ha : Ev K te es (.tup (xs.map em))) (hl : EvO K tl es lo) (hh : EvO K th es hi) : Ev K (tSl (rSlA K) te tl th) es (.tup ((cutL xs lo hi).map em)) := by
  rw [← cutL_map]
  exact ev_cutD ha hl hh
end
/-! o.m(.., k = v, ..) -/
def tMethK (C : Addr) (m : Str) (n mm : Nat) (sp : Sp) (gV : List V → List V → List V) (E : XK) (ta : TE) (t tk : TA) : TE := fun σ H Q => ta σ H fun x H1 => ∃ a dx fs, x = .ref a ∧ H1 a = some (.ins C dx fs) ∧ fs.lookup m = none ∧
  t σ H1 fun vs H2 => tk σ H2 fun zs H3 => vs.length + 1 = n ∧ zs.length = mm ∧ sp (gV (x :: vs) zs) H3 Q E
section
variable {X : Cx} {CX : CXT} {k n : Nat} {C f : Addr} {m : Str} {fd : FuncData} {ps ks : List Str} {sp : Sp} {E : XK} {o e : Expr} {es : List Expr} {kws : List Keyword} {ta : TE} {t tk : TA} {apos pos : Pos} {g : List Value → List Value → List Value} {gV : List V → List V → List V}
theorem pe_methK {pl : Sem Bool} (he : PE X o ta) (c : Cls X.K C) (hm : Meth X.K C m f) (F : FnOk X.prog X.w X.K X.mg X.base CX k f fd ps sp) (hr : Room k X.A) (hb : KBn X.K fd ps n ks g gV) (hx : Passes CX X E) (ha : PA X (e :: es) t)
    (hkw : PK X kws tk) (hall : (backToKw pos (keywordEach kws X.env)).all (·.1.isSome) = true := by rfl) (hks : (backToKw pos (keywordEach kws X.env)).filterMap (·.1) = ks := by rfl)
    (hst : starEach (e :: es) X.env = (false, eval e X.env) :: starEach es X.env := by rfl)
    (hpl : ((backTo pos (starEach (e :: es) X.env)).any (·.1) || (backToKw pos (keywordEach kws X.env)).any (·.1.isNone)) = false := by rfl)
    (ht : eval (.Call (.Attribute o m apos) (e :: es) kws pos) X.env = (do
      let ov ← eval o X.env
      standAt apos.atName
      let (f, first) ← holding [ov] (getMethod ov m pl)
      callWith pos f first (backTo pos (starEach (e :: es) X.env)) (backToKw pos (keywordEach kws X.env))) := by rfl) :
    PE X (.Call (.Attribute o m apos) (e :: es) kws pos) (tMethK C m n ks.length sp gV E ta t tk) := by
  refine ⟨fun pins s σ H Q I h => ?_⟩
  refine PySem.W.methodCall_KW (pl := pl) (thn (he.run pins s σ H _ I h) fun u s1 ⟨x, H1, I1, rx, a, dx, fs, ex, ea, l, q⟩ => ?_) ht
  subst ex
  obtain rfl : u = Value.ref a := rx
  refine getmeth_ok I1 ea c hm l ?_
  refine PySem.W.callWith_KW (first := [.ref a]) (h₀ := X.base) I.ok.mod.kin hm.kp hall (thn (ha.run pos pins s1 σ H1 _ I1 q) fun us s2 ⟨vs, H2, I2, r, q2⟩ => ?_) hpl hst
  refine thn (hkw.run pos pins s2 σ H2 _ I2 q2) fun ws s3 ⟨zs, H3, I3, rz, l1, l2, q3⟩ => ⟨I3.kIn, ?_⟩
  rw [hks]
  exact run_fnN (us := .ref a :: us) (vs := .ref a :: vs) F hr hb hx I3 (.cons rfl r) rz l1 l2 q3
end
section
variable {K : PySem.W.Frag} {es : List Sl} {ta tk : TA} {E : XK}
theorem ev_methK {P : List Dt → Dt → Prop} {to : TE} {C : Addr} {fs : List (Str × Dt)} {m : Str} {d : Dt} {n mm : Nat} {fV : List V → List V → List V} {ds ks ds' : List Dt} (ho : Ev K to es (.obj C fs)) (hm : fs.lookup m = none) (ha : EvA K ta es ds) (hk : EvA K tk es ks)
    (hn : ds.length + 1 = n) (hmm : ks.length = mm) (hf : ∀ G vs zs, Reps K G vs (.obj C fs :: ds) → Reps K G zs ks → Reps K G (fV vs zs) ds') (hP : P ds' d) : Ev K (tMethK C m n mm (FSpec K (RD P)) fV E to ta tk) es d := fun F G H σ s Q q =>
  ho F G H σ s _ fun x G0 H0 s0 g0 r0 => by
    have r0' := r0
    cases r0 with
    | obj h rf =>
      refine ⟨_, _, _, rfl, s0.g _ _ h, rf.lookup_none hm, ?_⟩
      exact ha F G0 H0 σ s0 _ fun vs G1 H1 s1 g1 r1 => hk F G1 H1 σ s1 _ fun zs G2 H2 s2 g2 r2 => ⟨by rw [r1.length]; exact hn, by rw [r2.length]; exact hmm,
        rem G2 H2, G2, ds'.map .d, d, ds'.map .d, stt_data s2.rem.1 s2.g s2.rem.2 (hf G2 _ zs (.cons (r0'.mono (g1.trans g2)) (r1.mono g2)) r2), ⟨_, rfl, rfl, hP⟩, fun v G3 H3 s3 g3 r3 =>
        q v G3 H3 (s2.after s3.f s3.g s3.dj g3) (g0.trans (g1.trans (g2.trans g3))) r3⟩
end
section
variable {K : PySem.W.Frag}
/-- a def with keyword-only parameters that have no defaults: all are given -/
theorem kbindsN {x qual : Str} {st : Stmt} {f : Addr} {fd : FuncData} {ps : List Str} (F : Fun K x qual st f fd) (n : Nat) (ks : List Str) (g : {α : Type} → List α → List α → List α)
    (hrel : ∀ {vs zs : List V} {us ws : List Value}, Vals vs us → Vals zs ws → Vals (g vs zs) (g us ws))
    (h : ∀ (kV doc pm : Value) (an : Option Addr) (cdv ct : Value) (us ws : List Value), us.length = n → ws.length = ks.length → bindArgs (PySem.W.fnOf x qual (defArgs st) (defBody st) (defScope st) .none kV doc pm an cdv ct) ⟨us, ks.zip ws⟩ = pure (ps.zip (g us ws))) :
    ∃ mv : List Value, KBn K fd ps n ks (fun us ws => g us ws) (fun vs zs => g vs zs) := by
  obtain ⟨oc, od, kV, doc, pm, an, cdv, ct, osl, rfl, lk, hcd⟩ := F.ex
  exact ⟨[], ⟨fun s us ws X l1 l2 => BindsTo.of_eq (h kV doc pm an cdv ct us ws l1 l2), fun r1 r2 => hrel r1 r2⟩⟩
end
/-- a constant: a tuple of numbers or texts -/
theorem relS {s : Str} {t : Tok} : RelV (.str s) (.str s t) := ⟨t, rfl⟩
theorem tupc_mk {K : PySem.W.Frag} {a : Addr} {od : Option Addr} {its : Array Value} {n : Nat} {sl : Array (Option Value)} (xs : List V) (items : List Value) {ds : List Dt} (l : K.lookup a = some ⟨.type "tuple", od, .seq its n, sl⟩) (hz : its = items.toArray) (hs : Nat.ble items.length 1000 = true) (r : Vals xs items)
    (q : ∀ G : Hp, Reps K G xs ds) : ∀ G : Hp, Rep K G (.ref a) (.tup ds) := fun G => by
  subst hz
  refine .tup (.inr ⟨_, _, n, l, rfl, rfl, ?_, r⟩) (q G)
  rw [List.size_toArray]
  exact Nat.le_trans (Nat.le_of_ble_eq_true hs) (by decide)
/-- a text that is known -/
abbrev dK (s : Str) (_ : Unit) : Dt := .str s
/-- one expression, understood in two ways -/
def tAltE (t u : TE) : TE := fun σ H Q => t σ H Q ∨ u σ H Q
theorem pe_alt {X : Cx} {e : Expr} {t u : TE} (h1 : PE X e t) (h2 : PE X e u) : PE X e (tAltE t u) := ⟨fun pins s σ H Q I h => h.elim (h1.run pins s σ H Q I) (h2.run pins s σ H Q I)⟩
section
variable {K : PySem.W.Frag} {es : List Sl} {t1 t2 : TE}
theorem ev_alt1 {d : Dt} (h : Ev K t1 es d) : Ev K (tAltE t1 t2) es d := fun F G H σ s Q q => .inl (h F G H σ s Q q)
theorem ev_alt2 {d : Dt} (h : Ev K t2 es d) : Ev K (tAltE t1 t2) es d := fun F G H σ s Q q => .inr (h F G H σ s Q q)
theorem ev_split {α β γ : Type} {em : γ → Dt} {f : α → Option γ} {g : β → Option γ} {s : α ⊕ β} (h1 : ∀ a, s = .inl a → ∀ r, f a = some r → Ev K t1 es (em r)) (h2 : ∀ b, s = .inr b → ∀ r, g b = some r → Ev K t2 es (em r)) :
    ∀ r, Sum.elim f g s = some r → Ev K (tAltE t1 t2) es (em r) := fun r h => by
  cases s with
  | inl a => exact ev_alt1 (h1 a rfl r h)
  | inr b => exact ev_alt2 (h2 b rfl r h)
end
/-! tests whose answer is known -/
section
variable {K : PySem.W.Frag} {es : List Sl} {ρ : Type} {tt : TT} {t u tz : TS} {m : Option ρ} {oc : ρ → Res} {b : Bool} {ta tb : TE} {d : Dt}
theorem sm_ifT (h : EvT K tt es b) (e : b = true) (h1 : SM K (tSeq t tz) es m oc) : SM K (tSeq (tIfS tt t u) tz) es m oc := by
  have q := sm_if (u := u) (q := none) h (fun _ => h1) (fun z => by rw [e] at z; cases z)
  rw [if_pos e] at q
  exact q
theorem sm_ifF (h : EvT K tt es b) (e : b = false) (h1 : SM K (tSeq u tz) es m oc) : SM K (tSeq (tIfS tt t u) tz) es m oc := by
  subst e
  have q := sm_if (t := t) (p := none) h (fun z => nomatch z) (fun _ => h1)
  exact q
theorem ev_ifT (h : EvT K tt es b) (e : b = true) (h1 : Ev K ta es d) : Ev K (tIf tt ta tb) es d := by
  subst e
  exact ev_if h (fun _ => h1) fun e => nomatch e
theorem ev_ifF (h : EvT K tt es b) (e : b = false) (h1 : Ev K tb es d) : Ev K (tIf tt ta tb) es d := by
  subst e
  exact ev_if h (fun e => nomatch e) fun _ => h1
end
/-- an item of a tuple whose first item is of another kind -/
def atO {α : Type} (xs : List (Option α)) (i : Int) : Option α := (atC xs i).bind id
theorem ev_ixTO {K : PySem.W.Frag} {es : List Sl} {ta tb : TE} {α : Type} {em : α → Dt} {d0 : Dt} {xs : List α} {i : Int} {x : α} (ha : Ev K ta es (.tup (d0 :: xs.map em))) (hb : Ev K tb es (.int i)) (h : atO (none :: xs.map some) i = some x) : Ev K (tOp (rIxT K) ta tb) es (em x) := by
  have e : d0 :: xs.map em = ((none :: xs.map some : List (Option α))).map (fun o => o.elim d0 em) := by
    rw [List.map_cons, List.map_map]
    rfl
  rw [e] at ha
  unfold atO at h
  cases q : atC (none :: xs.map some) i with
  | none => rw [q] at h; cases h
  | some o =>
    rw [q] at h
    have h : o = some x := h
    subst h
    exact ev_ixTC (em := fun o : Option α => o.elim d0 em) ha hb q
end DL

/-! Dl14: what the head's facts are for, over the base (the head itself is in Dl0) -/
namespace Hd
open PySem PySem.Spec PyProof.Rows L2 He
theorem nul_ok {K : PySem.W.Frag} {a : Addr} (h : nulB K a = true) : ∀ G : Hp, DL.Rep K G (.ref a) (.tup []) := fun G => by
  unfold nulB at h
  cases q : K.lookup a with
  | none =>
    rw [q] at h
    cases h
  | some o =>
    obtain ⟨oc, od, dt, osl⟩ := o
    rw [q] at h
    cases oc with
    | type c =>
      cases dt with
      | seq its n =>
        obtain ⟨h1, h2⟩ := ba (show (decide (c = "tuple") && its.toList.isEmpty) = true from h)
        have e : its.toList = [] := List.isEmpty_iff.mp h2
        refine .tup (xs := []) (.inr ⟨_, its, n, q, congrArg Value.type (of_decide_eq_true h1), rfl, ?_, ?_⟩) .nil
        · have : its.size = its.toList.length := rfl
          rw [this, e]
          exact Nat.zero_le _
        · rw [e]
          exact .nil
      | _ => cases h
    | _ => cases dt <;> cases h
section
variable {cks : List (List Ck)} {fn : List DefD} {ex : List ExD} {K : PySem.W.Frag}
theorem SaysX.fact (c : SaysX cks fn ex K) (i j : Nat) {l : List Ck} {f : Ck} (h : cks[i]? = some l) (h2 : l[j]? = some f) : f K = true := by
  have c1 := (ba (show ((cks.all fun l => l.all fun f => f K) && fn.all fun d => d.ok K) = true from congrArg (fun z : AlX => z.1) c)).1
  exact List.all_eq_true.mp (List.all_eq_true.mp c1 l (List.mem_of_getElem? h)) f (List.mem_of_getElem? h2)
theorem SaysX.def_ (c : SaysX cks fn ex K) (i : Nat) {d : DefD} (h : fn[i]? = some d) : ∃ fd, FunD K d.name d.qual d.params d.body d.scope (d.dvs K) (d.kws K) (fAd K d.at_) fd := by
  have c2 := (ba (show ((cks.all fun l => l.all fun f => f K) && fn.all fun d => d.ok K) = true from congrArg (fun z : AlX => z.1) c)).2
  have e : fn.map (fun d => fnW K d.at_) = fn.map DefD.val := congrArg (fun z : AlX => z.2.1) c
  have e2 : (fn.map fun d => fnW K d.at_)[i]? = (fn.map DefD.val)[i]? := by rw [e]
  rw [List.getElem?_map, List.getElem?_map, h] at e2
  exact DefD.funD (Option.some.inj e2) (List.all_eq_true.mp c2 d (List.mem_of_getElem? h))
theorem SaysX.exc_ (c : SaysX cks fn ex K) (i : Nat) {d : ExD} (h : ex[i]? = some d) : fnY K (exAd K d) = d.val := by
  have e : ex.map (fun d => fnY K (exAd K d)) = ex.map ExD.val := congrArg (fun z : AlX => z.2.2) c
  have e2 : (ex.map fun d => fnY K (exAd K d))[i]? = (ex.map ExD.val)[i]? := by rw [e]
  rw [List.getElem?_map, List.getElem?_map, h] at e2
  exact Option.some.inj e2
end
theorem toFun {K : PySem.W.Frag} {x q : Str} {st : Stmt} {kws : List (Str × V)} {f : Addr} {fd : FuncData} (F : FunD K x q (defArgs st) (defBody st) (defScope st) [] kws f fd) : Fun K x q st f fd := by
  obtain ⟨⟨oc, od, dV, kV, doc, pm, an, cdv, ct, osl, e, l, c, d, _⟩, k⟩ := F
  rcases d with ⟨_, e2⟩ | ⟨ne, _⟩
  · subst e2
    exact ⟨⟨oc, od, kV, doc, pm, an, cdv, ct, osl, e, l, c⟩, k⟩
  · exact absurd rfl ne
/-- a law: F gives the written part, the function object, the promise over every base; the script's bits told -/
theorem walk_ofEB {l : PySem.W.OpenLaw} {n k : Nat} {q : Program} {loose : List Str} {XP : (Str → Option Value) → Heap → Prop} {YP : World → Heap → Prop} {d : DefRec} {CX : CXT} {x : Str}
    (hn : l.most = some n) (hn2 : n ≤ sizeLine) (hdf : d.params.defaults = []) (hr : Room k callerA)
    (F : ∀ (w : World) (mg : Str → Option Value) (fa : Addr) (h : Heap), YP w h → h.Ns mainGlobals mg → mg d.name = some (.ref fa) →
      ∃ (K : PySem.W.Frag) (fd : FuncData) (sp : Sp), K.In h ∧ (∀ (s : Shared) (u : Value), BindsTo s fd ⟨[u], []⟩ [(x, u)]) ∧
        (∀ (H : Hp) (a : Addr) (ns : List Int), ns.length ≤ n → (∀ z ∈ ns, Builtin.Int.intBits z ≤ 1048576) → Only H → SqL K H a (ns.map V.int) → sp [.ref a] H (fun v _ => v = .bl true) fun _ _ _ => False) ∧
        ∀ base : Heap, K.In base → base.Ns mainGlobals mg → FnOk l.prog w K mg base CX k fa fd [x] sp)
    (hCX : ∀ (H : Hp) (s : Shared) (e : Value) (s' : Shared), CX [] H s (fun _ _ _ => False) e s' → False) :
    PySem.W.WalkO q loose XP YP l.row.toRowW d [] (fun f vs => PySem.call f vs) := by
  refine Att.attach_callB hn hdf fun w s₀ s₁ mg mb fa o pm cd doc a vs ns G Y ho hd hcd hmg hobj hints hlen hbits hg => ?_
  obtain ⟨K, fd, sp, KX, hb, hsp, hF⟩ := F w mg fa _ Y G.T.g hmg
  exact law_call KX G.T.g G.T.b G.T.builtins G.T.nolimit hg hobj hints (Nat.le_trans hlen hn2) hr hF hb (fun H hO hS => hsp H a ns hlen hbits hO hS) fun H e s' => hCX H s₁ e s'
end Hd

namespace DL
open PySem L2
/-! ### equality of data whose depth is not known -/
def shD : Nat → Dt → Bool
  | _, .non => true
  | _, .bl _ => true
  | _, .int _ => true
  | _, .str s => PyData.canLay0 (.str s)
  | n + 1, .tup xs => xs.all (shD n)
  | n + 1, .lst xs => xs.all (shD n)
  | _, _ => false
theorem shs_all {n : Nat} (k : ∀ d, shD n d = true → SH n d) : ∀ {xs : List Dt}, xs.all (shD n) = true → SHs n xs
  | [], _ => .nil
  | x :: xs, h => by
    rw [List.all_cons, Bool.and_eq_true] at h
    exact .cons (k x h.1) (shs_all k h.2)
theorem shD_ok : ∀ {n : Nat} {d : Dt}, shD n d = true → SH n d
  | 0, .non, _ => .non
  | 0, .bl _, _ => .bl
  | 0, .int _, _ => .int
  | 0, .str _, h => .str (by unfold shD at h; exact h)
  | 0, .ty _, h => by unfold shD at h; cases h
  | 0, .tup _, h => by unfold shD at h; cases h
  | 0, .lst _, h => by unfold shD at h; cases h
  | 0, .obj _ _, h => by unfold shD at h; cases h
  | 0, .dic _ _, h => by unfold shD at h; cases h
  | n + 1, .non, _ => .non
  | n + 1, .bl _, _ => .bl
  | n + 1, .int _, _ => .int
  | n + 1, .str _, h => .str (by unfold shD at h; exact h)
  | n + 1, .ty _, h => by unfold shD at h; cases h
  | n + 1, .tup xs, h => .tup (shs_all (fun d k => shD_ok k) (by unfold shD at h; exact h))
  | n + 1, .lst xs, h => .lst (shs_all (fun d k => shD_ok k) (by unfold shD at h; exact h))
  | n + 1, .obj _ _, h => by unfold shD at h; cases h
  | n + 1, .dic _ _, h => by unfold shD at h; cases h
def eqDC (a b : Dt) : Option Bool := if (shD 64 a && shD 64 b) = true then some (eqD a b) else none
section
variable {K : PySem.W.Frag} {es : List Sl} {ta tb : TE} {a b : Dt} {z : Bool}
theorem eqDC_of (h : eqDC a b = some z) : (SH 64 a ∧ SH 64 b) ∧ eqD a b = z := by
  obtain ⟨h1, h2⟩ := ite_some h
  rw [Bool.and_eq_true] at h1
  exact ⟨⟨shD_ok h1.1, shD_ok h1.2⟩, h2⟩
theorem ev_eqDC (ha : Ev K ta es a) (hb : Ev K tb es b) (h : eqDC a b = some z) : Ev K (tOp (rEqD K) ta tb) es (.bl z) := by
  obtain ⟨⟨s1, s2⟩, e⟩ := eqDC_of h
  exact ev_is (ev_eqD s1 s2 ha hb) (congrArg Dt.bl e)
theorem ev_neDC (ha : Ev K ta es a) (hb : Ev K tb es b) (h : eqDC a b = some z) : Ev K (tOp (rNeD K) ta tb) es (.bl (!z)) := by
  obtain ⟨⟨s1, s2⟩, e⟩ := eqDC_of h
  exact ev_is (ev_neD s1 s2 ha hb) (congrArg (fun q => Dt.bl (!q)) e)
end
/-! ### a text in a list or tuple of texts -/
theorem strs_of {K : PySem.W.Frag} {G : Hp} : ∀ {vs : List V} {ns : List Str}, Reps K G vs (ns.map Dt.str) → vs = ns.map V.str
  | [], [], _ => rfl
  | v :: vs, n :: ns, .cons h r => by
    cases h
    rw [strs_of r]
    rfl
theorem inV_str {i : Str} : ∀ {xs : List Str}, inV (.str i) (xs.map V.str) = decide (i ∈ xs)
  | [] => rfl
  | x :: xs => by
    have ih := inV_str (i := i) (xs := xs)
    unfold inV at ih ⊢
    rw [List.map_cons, List.any_cons, ih]
    show (x == i || decide (i ∈ xs)) = decide (i ∈ x :: xs)
    rw [Bool.eq_iff_iff, Bool.or_eq_true, beq_iff_eq, decide_eq_true_eq, decide_eq_true_eq, List.mem_cons]
    exact ⟨fun h => h.imp Eq.symm (fun x => x), fun h => h.imp Eq.symm (fun x => x)⟩
theorem all_str {xs : List Str} : (xs.map V.str).all flatV = true := by
  rw [List.all_eq_true]
  intro x hx
  obtain ⟨y, _, rfl⟩ := List.mem_map.mp hx
  rfl
section
variable {K : PySem.W.Frag} {es : List Sl} {ta tb : TE}
theorem ev_inLS {i : Str} {xs : List Str} (ha : Ev K ta es (.str i)) (hb : Ev K tb es (.lst (xs.map Dt.str))) : Ev K (tOp (rIn K false) ta tb) es (.bl (decide (i ∈ xs))) := ev_op ha hb fun F G H σ es x y s rx ry Q q => by
  cases rx
  cases ry with
  | lst h r =>
    obtain rfl := strs_of r
    refine ⟨_, _, rfl, .inl (s.g.seq h), rfl, all_str, ?_⟩
    show Q (.bl (inV (.str i) (xs.map V.str))) H
    rw [inV_str]
    exact q _ G H s (Same.refl _) (.bl _)
theorem ev_ninLS {i : Str} {xs : List Str} (ha : Ev K ta es (.str i)) (hb : Ev K tb es (.lst (xs.map Dt.str))) : Ev K (tOp (rIn K true) ta tb) es (.bl (!decide (i ∈ xs))) := ev_op ha hb fun F G H σ es x y s rx ry Q q => by
  cases rx
  cases ry with
  | lst h r =>
    obtain rfl := strs_of r
    refine ⟨_, _, rfl, .inl (s.g.seq h), rfl, all_str, ?_⟩
    show Q (.bl (!inV (.str i) (xs.map V.str))) H
    rw [inV_str]
    exact q _ G H s (Same.refl _) (.bl _)
theorem ev_inTS {i : Str} {xs : List Str} (ha : Ev K ta es (.str i)) (hb : Ev K tb es (.tup (xs.map Dt.str))) : Ev K (tOp (rIn K false) ta tb) es (.bl (decide (i ∈ xs))) := ev_op ha hb fun F G H σ es x y s rx ry Q q => by
  cases rx
  cases ry with
  | tup h r =>
    obtain rfl := strs_of r
    refine ⟨_, _, rfl, .inr (sqT_mono s.g h), rfl, all_str, ?_⟩
    show Q (.bl (inV (.str i) (xs.map V.str))) H
    rw [inV_str]
    exact q _ G H s (Same.refl _) (.bl _)
theorem ev_ninTS {i : Str} {xs : List Str} (ha : Ev K ta es (.str i)) (hb : Ev K tb es (.tup (xs.map Dt.str))) : Ev K (tOp (rIn K true) ta tb) es (.bl (!decide (i ∈ xs))) := ev_op ha hb fun F G H σ es x y s rx ry Q q => by
  cases rx
  cases ry with
  | tup h r =>
    obtain rfl := strs_of r
    refine ⟨_, _, rfl, .inr (sqT_mono s.g h), rfl, all_str, ?_⟩
    show Q (.bl (!inV (.str i) (xs.map V.str))) H
    rw [inV_str]
    exact q _ G H s (Same.refl _) (.bl _)
end
/-- a test that is never reached -/
def tNevT : TT := fun _ _ _ => False
theorem pt_nev {X : Cx} {e : Expr} : PT X e tNevT := ⟨fun _ _ _ _ _ _ h => h.elim⟩
/-! what is of the one kind of two -/
theorem ev_unl {K : PySem.W.Frag} {es : List Sl} {te : TE} {α β : Type} {e1 : α → Dt} {e2 : β → Dt} {u : α ⊕ β} {x : α} (h : Sum.getLeft? u = some x) (p : Ev K te es (dS e1 e2 u)) : Ev K te es (e1 x) := by
  cases u with
  | inl a => cases h; exact p
  | inr b => cases h
theorem ev_unr {K : PySem.W.Frag} {es : List Sl} {te : TE} {α β : Type} {e1 : α → Dt} {e2 : β → Dt} {u : α ⊕ β} {x : β} (h : Sum.getRight? u = some x) (p : Ev K te es (dS e1 e2 u)) : Ev K te es (e2 x) := by
  cases u with
  | inl a => cases h
  | inr b => cases h; exact p
end DL

/-! Dl16: a new object that the def that made it still writes to -/
namespace DL
open PySem L2
section
variable {K : PySem.W.Frag} {F G H F' G' H' : Hp} {σ σ' : L2.St} {es es' : List Sl} {p : Addr}
theorem Stt.takeO {C : Addr} {dx : Addr} {vs : List (Str × V)} {fs : List (Str × Dt)} {i : Nat} (s : Stt K (upd F p (.ins C dx vs)) G H σ es) (hF : F p = none) (r : RepF K G vs fs) : Stt K F G H (σ.set i (some (.ref p))) (es.set i (.obo none C fs)) := by
  have gp : G p = none := s.dj p _ upd_same
  have hp : H p = some (.ins C dx vs) := s.f p _ upd_same
  have up : ∀ {q : Addr} {u : HO}, F q = some u → upd F p (.ins C dx vs) q = some u := fun {q u} e => by rw [upd_ne (ne_of_none e hF)]; exact e
  refine ⟨fun a u e => s.f a u (up e), s.g, fun a u e => s.dj a u (up e), by rw [List.length_set, List.length_set]; exact s.len, fun j t e => ?_, s.sp_take fun _ _ h => h⟩
  · by_cases q : i = j
    · subst q
      have hj : i < es.length := by
        have := (List.getElem?_eq_some_iff.mp e).1
        rwa [List.length_set] at this
      rw [List.getElem?_set_self hj] at e
      cases e
      exact ⟨_, List.getElem?_set_self (by rw [s.len]; exact hj), p, dx, vs, rfl, gp, hF, hp, r, fun q e => nomatch e⟩
    · rw [List.getElem?_set_ne q] at e
      rw [List.getElem?_set_ne q]
      obtain ⟨x, hx, k⟩ := s.sl j t e
      exact ⟨x, hx, k.grow (Same.refl _) (fun q u _ _ e => e) fun q g _ f => ⟨g, (upd_none f).2⟩⟩
/-- an object that is made, and is its maker's -/
def EvOb (K : PySem.W.Frag) (te : TE) (es : List Sl) (C : Addr) (fs : List (Str × Dt)) : Prop := ∀ F G H σ, Stt K F G H σ es → ∀ Q : VK, (∀ p dx vs G' H', Stt K (upd F p (.ins C dx vs)) G' H' σ es → F p = none → Same G G' → RepF K G' vs fs → Q (.ref p) H') → te σ H Q
variable {ta : TA} {ds dds : List Dt} {E : XK} {dvs : List V}
theorem ob_makeD {P : List Dt → List (Str × Dt) → Prop} {C : Addr} {fs : List (Str × Dt)} (ha : EvA K ta es ds) (hd : ∀ G, Reps K G dvs dds) (hP : P (ds ++ dds) fs) : EvOb K (tMake C (FSpec K (RI C P)) dvs E ta) es C fs := fun F G H σ s Q q =>
  ha F G H σ s _ fun vs G1 H1 s1 g1 r1 x dx hx hdx ne => by
    have hx1 : upd H1 dx (.own x) x = none := by
      rw [upd_ne (fun z => ne z.symm)]
      exact hx
    have s2 : Stt K F G1 (upd (upd H1 dx (.own x)) x (.ins C dx [])) σ es := (s1.lay hdx).lay hx1
    have gx : G1 x = none := s1.gnone hx
    have rx : ∀ a o, a ≠ x → rem G1 (upd (upd H1 dx (.own x)) x (.ins C dx [])) a = some o → rem G1 (upd (upd H1 dx (.own x)) x (.ins C dx [])) a = some o := fun _ _ _ e => e
    -- what is another's: all but the known and the new one
    refine ⟨fun a => if a = x then none else rem G1 (upd (upd H1 dx (.own x)) x (.ins C dx [])) a, G1, .obo (some x) C [] :: (ds ++ dds).map .d, .non, .obo (some x) C fs :: (ds ++ dds).map .d, ?_, ⟨x, _, fs, rfl, rfl, rfl, hP⟩, ?_⟩
    · have base : Stt K (fun a => if a = x then none else rem G1 (upd (upd H1 dx (.own x)) x (.ins C dx [])) a) G1 (upd (upd H1 dx (.own x)) x (.ins C dx [])) ((vs ++ dvs).map some) ((ds ++ dds).map .d) := by
        refine stt_data (fun a o e => ?_) s2.g (fun a o e => ?_) (r1.append (hd G1))
        · by_cases q : a = x
          · rw [if_pos q] at e; cases e
          · rw [if_neg q] at e; exact (rem_some e).1
        · by_cases q : a = x
          · rw [if_pos q] at e; cases e
          · rw [if_neg q] at e; exact (rem_some e).2
      refine ⟨base.f, base.g, base.dj, by rw [List.map_cons, List.length_cons, List.length_cons, base.len], fun i t e => ?_, sp_one⟩
      · cases i with
        | zero =>
          cases e
          exact ⟨_, rfl, x, dx, [], rfl, gx, if_pos rfl, upd_same, .nil, fun q e => (Option.some.inj e).symm⟩
        | succ i => exact base.sl i t e
    · intro v G2 H2 s3 g3 r3
      cases r3
      obtain ⟨o, ho, p, dx', fv, eo, gp, fp, hp, rf, an⟩ := s3.sl 0 _ rfl
      cases ho
      cases eo
      refine ⟨rfl, ?_⟩
      have keep : ∀ a o, H1 a = some o → G1 a = none → H2 a = some o ∧ G2 a = none := fun a o e g => by
        have ax : a ≠ x := fun z => by subst z; rw [hx] at e; cases e
        have adx : a ≠ dx := fun z => by subst z; rw [hdx] at e; cases e
        have fa : (if a = x then none else rem G1 (upd (upd H1 dx (.own x)) x (.ins C dx [])) a) = some o := by
          rw [if_neg ax, rem_of g, upd_ne ax, upd_ne adx]
          exact e
        exact ⟨s3.f a o fa, s3.dj a o fa⟩
      have nex : ∀ a o, H1 a = some o → a ≠ x := fun a o e z => by subst z; rw [hx] at e; cases e
      have fx : F x = none := by
        cases q : F x with
        | none => rfl
        | some o => exact absurd rfl (nex x o (s1.f x o q))
      have s4 : Stt K (upd F x (.ins C dx' fv)) G2 H2 σ es :=
        { f := fun a o e => by
            by_cases q : a = x
            · subst q
              rw [upd_same] at e
              cases e
              exact hp
            · rw [upd_ne q] at e
              exact (keep a o (s1.f a o e) (s1.dj a o e)).1
          g := s3.g
          dj := fun a o e => by
            by_cases q : a = x
            · subst q
              exact gp
            · rw [upd_ne q] at e
              exact (keep a o (s1.f a o e) (s1.dj a o e)).2
          len := s1.len
          sl := fun i t e => by
            obtain ⟨y, hy, k⟩ := s1.sl i t e
            exact ⟨y, hy, k.grow g3 (fun q u hg _ e => (keep q u e hg).1) fun q hg ⟨u, hu⟩ hf => ⟨(keep q u hu hg).2, by rw [upd_ne (nex q u hu)]; exact hf⟩⟩
          sp := s1.sp }
      exact q x dx' fv G2 H2 s4 fx (g1.trans g3) rf
theorem ob_make {P : List Dt → List (Str × Dt) → Prop} {C : Addr} {fs : List (Str × Dt)} (ha : EvA K ta es ds) (hP : P ds fs) : EvOb K (tMake C (FSpec K (RI C P)) [] E ta) es C fs := ob_makeD (dds := []) ha (fun _ => .nil) (by rw [List.append_nil]; exact hP)
theorem sm_ownO {ρ : Type} {te : TE} {tz : TS} {m : Option ρ} {oc : ρ → Res} {i : Nat} {C : Addr} {fs : List (Str × Dt)} (h : EvOb K te es C fs) (he : es.set i (.obo none C fs) = es') (k : SM K tz es' m oc) : SM K (tSeq (tAsg te (gName i)) tz) es m oc := fun r e F G H σ D s q =>
  h F G H σ s _ fun p dx vs G1 H1 s1 hF g1 r1 => k r e F G1 H1 _ D (he ▸ s1.takeO hF r1) (q.up g1)
end
theorem dS_non {α β : Type} {e1 : α → Dt} {e2 : β → Dt} (h1 : ∀ x, e1 x = .non → False) (h2 : ∀ x, e2 x = .non → False) : ∀ u, dS e1 e2 u = .non → False := fun u => by
  cases u with
  | inl x => exact h1 x
  | inr x => exact h2 x
end DL

/-! Dl17: a call that raises inside an expression -/
namespace DL
open PySem L2
section
variable {K : PySem.W.Frag} {es : List Sl} {c : Addr} {f n : Str} {tc : (L2.St → XK) → TE} {tb : TE} {r : R2}
theorem xv_fld (h : XvE K tc es c f) : XvE K (fun E => tFld K (tc E) n) es c f := fun F G H σ s Q E q => h F G H σ s _ E q
theorem xv_opL (h : XvE K tc es c f) : XvE K (fun E => tOp r (tc E) tb) es c f := fun F G H σ s Q E q => h F G H σ s _ E q
/-- a test that raises -/
def XvT (K : PySem.W.Frag) (tt : (L2.St → XK) → TT) (es : List Sl) (c : Addr) (f : Str) : Prop := ∀ F G H σ, Stt K F G H σ es → ∀ (Q : Bool → Hp → Prop) (E : L2.St → XK),
  (∀ dd G' H', Stt K F G' H' σ es → Same G G' → H' dd = some (xdF f) → F dd = none → G' dd = none → E σ (.ref c) (some dd) H') → tt E σ H Q
theorem xt_B (h : XvE K tc es c f) : XvT K (fun E => tB (tc E)) es c f := fun F G H σ s Q E q => h F G H σ s _ E q
theorem xt_not {tt : (L2.St → XK) → TT} (h : XvT K tt es c f) : XvT K (fun E => tNot (tt E)) es c f := fun F G H σ s Q E q => h F G H σ s _ E q
theorem smx_retX {E : XK} {E' : L2.St → XK} {tz : TS} {x : Option Str} (hE : E' = fun _ => E) (hx : ∀ f, x = some f → XvE K tc es c f) : SMX K (tSeq (tRet (tc E')) tz) E es c x := fun f e F G H σ D s q => by
  subst hE
  exact hx f e F G H σ s _ (fun _ => E) fun dd G' H' s' g' h1 f1 n1 => q dd G' H' s'.f s'.g s'.dj g' h1 f1 n1
theorem smx_ifX {E : XK} {E' : L2.St → XK} {tt : (L2.St → XK) → TT} {t u tz : TS} {x : Option Str} (hE : E' = fun _ => E) (hx : ∀ f, x = some f → XvT K tt es c f) : SMX K (tSeq (tIfS (tt E') t u) tz) E es c x := fun f e F G H σ D s q => by
  subst hE
  exact hx f e F G H σ s _ (fun _ => E) fun dd G' H' s' g' h1 f1 n1 => q dd G' H' s'.f s'.g s'.dj g' h1 f1 n1
end
end DL

/-! Dl18: tries with several named handlers and bodies of any shape; loops and arguments that raise -/
namespace L2
open PySem PySem.Spec PyProof.Rows
abbrev Hnd := Value × Nat × (Addr → Value → Option Addr → TS)
/-- the ends of a suite whose name in slot i goes -/
def uset (D : Ends) (i : Nat) : Ends := { nx := fun τ G => D.nx (τ.set i none) G, rt := D.rt, bk := fun τ G => D.bk (τ.set i none) G, ct := fun τ G => D.ct (τ.set i none) G }
/-- the wishes of named clauses, in turn; nothing may get through -/
def wN (K : PySem.W.Frag) (D : Ends) : List Hnd → WX
  | [] => fun _ _ _ _ => False
  | (c, i, ts) :: r => fun cls d σ H => ∃ b, PySem.W.exmOne K cls c = some b ∧ (b = true → ∀ a, H a = none → ts a cls d (uset D i) (σ.set i (some (.ref a))) H) ∧ (b = false → wN K D r cls d σ H)
inductive HdN (X : Cx) : List ExceptHandler → List Hnd → Prop
  | nil : HdN X [] []
  | cons {x n : Str} {c : Value} {i : Nat} {ts : Addr → Value → Option Addr → TS} {b₀ : Stmt} {suite : List Stmt} {np q : Pos} {hds : List ExceptHandler} {l : List Hnd} (hi : X.N[i]? = some n) (hln : X.env.kindOf n = some .local) (hc : Names X x c)
      (hsu : ∀ (a : Addr) (oe : Obj) (cls : Value) (d : Option Addr) (pn : List (Addr × Obj)), Zc cls d oe → (∃ vs, oe.data = .fields vs) → PSs (X.suite a ((a, oe) :: pn)) (b₀ :: suite) (ts a cls d)) (r : HdN X hds l) :
      HdN X (.ExceptHandler (some (.Name x np)) (some n) (b₀ :: suite) q :: hds) ((c, i, ts) :: l)
section
variable {X : Cx} {pins : List (Addr × Obj)} {D : Ends} {a : Addr} {B h3 : Heap} {sI s' : Shared} {τ : St} {G : Hp} {cls : Value} {d : Option Addr}
/-- the exception is no frame's -/
theorem no_frame {h : Heap} {o : Obj} {vs : Array Value} (ff : h.FunFrames B (X.env :: X.outer)) (e : h.get? a = some o) (dd : o.data = .fields vs) : a ∉ frs (X.env :: X.outer) := by
  intro hm
  obtain ⟨_, o2, e2, no⟩ := ff.mem hm
  rw [e] at e2
  cases e2
  exact no _ dd
theorem catchN (ok : X.Ok) (hf : X.env.frame = some X.env.locals) (hN : X.N.Nodup) (J : Inv X pins τ G sI) (nb : ∀ b o, sI.heap.get? b = some o → b ∉ frs X.stack → B.get? b = some o) (up : sI.heap.UpToSlots h3)
    (fl : HandSPX.FlyingZ B (X.env :: X.outer) a (Zc cls d) h3) (na : G a = none) (os : s'.os = sI.os) (ag : AllBare s'.gens) :
    ∀ {hds : List ExceptHandler} {l : List Hnd}, HdN X hds l → wN X.K D l cls d τ G → wpAny (model X.prog X.w) X.A (handleBy (.ref a) X.env hds) (SP X pins D) X.xe { s' with heap := h3 } := by
  intro hds l hk
  induction hk with
  | nil => exact fun w => False.elim w
  | @cons x n c i ts b₀ suite np q hds2 l2 hi hln hc hsu r ih =>
    rintro ⟨b, hb1, yes, no⟩
    have J3 : Inv X pins τ G { s' with heap := h3 } := J.landed nb fl.1 up os ag
    obtain ⟨oe, vs, he, hz, hd⟩ := fl.there
    have nfr := no_frame fl.2.2.1 he hd
    have nL : a ≠ X.env.locals := fun z => nfr (List.mem_filterMap.mpr ⟨X.env, List.mem_cons_self, by rw [hf, z]⟩)
    have nF : a ∉ X.fs := by
      intro hm
      obtain ⟨e, m, q⟩ := List.mem_filterMap.mp hm
      exact nfr (List.mem_filterMap.mpr ⟨e, List.mem_cons_of_mem _ m, q⟩)
    have S3 := J3.suite he hd na nL nF
    have see : PySem.W.Looks (model X.prog X.w) h3 (typeOf (.ref a)) cls := fun A Q E s k q => wpAny_typeOf_ref (k _ _ he) (by rw [hz.1]; exact q)
    have asks := PySem.W.exm_one (M := model X.prog X.w) J3.kIn see hb1
    have name : ∀ {Q E : Value → Shared → Prop}, Q c { s' with heap := h3 } → wpAny (model X.prog X.w) (X.A.mark (some (.ref a))) (eval (.Name x np) X.env) Q E { s' with heap := h3 } := by
      intro Q E q
      rcases hc with ⟨g1, g2, g3 | ⟨g3, g4, g5⟩⟩
      · exact ld_glob (X := X.suite a ((a, oe) :: (X.pn ++ pins))) S3 g1 g3 q g2
      · exact ld_blt (X := X.suite a ((a, oe) :: (X.pn ++ pins))) S3 g1 g3 g4 q g5 g2
    refine wpAny_handleBy_cons (codeAny_handlers_test (name (asks.here ?_))) (by intro z; cases z)
    cases b with
    | false => exact ih (no rfl)
    | true =>
      refine codeAny_handlers_suite_as (HandSPX.lands_againZ fl fun h4 fl4 up4 => ?_)
      have J4 : Inv X pins τ G { s' with heap := h4 } := J.landed nb fl4.1 (up.trans up4) os ag
      obtain ⟨oe4, vs4, he4, hz4, hd4⟩ := fl4.there
      have S4 := J4.suite he4 hd4 na nL nF
      refine store_ok (X := X.suite a ((a, oe4) :: (X.pn ++ pins))) (v := .ref a) S4 hN hi (.inl hln) rfl (fun s5 S5 => ?_) (.inr hln)
      have go := (hsu a oe4 cls d (X.pn ++ pins) hz4 ⟨_, hd4⟩).run [] s5 _ G _ S5 (yes rfl a na)
      refine wpAny_mono go (fun f s6 sp => ?_) (fun _ _ z => False.elim z)
      cases f with
      | next => obtain ⟨τ6, G6, S6, q6⟩ := sp; exact gone_ok (S6.unsuite ok) hN hi hln fun _ J7 => ⟨_, _, J7, q6⟩
      | brk => obtain ⟨τ6, G6, S6, q6⟩ := sp; exact gone_ok (S6.unsuite ok) hN hi hln fun _ J7 => ⟨_, _, J7, q6⟩
      | cont => obtain ⟨τ6, G6, S6, q6⟩ := sp; exact gone_ok (S6.unsuite ok) hN hi hln fun _ J7 => ⟨_, _, J7, q6⟩
      | ret u => obtain ⟨v6, τ6, G6, S6, r6, q6⟩ := sp; exact gone_ok (S6.unsuite ok) hN hi hln fun _ J7 => ⟨_, _, _, J7, r6, q6⟩
end
section
variable {X : Cx} {body : List Stmt} {h₀ : ExceptHandler} {hds : List ExceptHandler} {l : List Hnd} {pos : Pos} {tb : WX → TS}
/-- try: body / except C1 as e: .. / except C2 as e: .. -/
theorem ps_tryN (hs : X.stack = X.env :: X.outer) (hf : X.env.frame = some X.env.locals) (hN : X.N.Nodup)
    (hb : ∀ (W : WX) (pn : List (Addr × Obj)) (xe : Value → Shared → Prop), Takes (X.tr pn xe) W → PassesOwn (model X.prog X.w) X.A X.env xe → PSs (X.tr pn xe) body (tb W)) (hh : HdN X (h₀ :: hds) l) :
    PS X (.Try body (h₀ :: hds) [] [] pos) (fun D σ H => tb (wN X.K D l) D σ H) := by
  refine ⟨fun pins s σ H D I h => wpAny_Try_except ?_⟩
  have ok := I.ok
  let E1 : Value → Shared → Prop := fun e s₁ => wpAny (model X.prog X.w) X.A (noteFrame e X.env) (fun _ s₂ => wpAny (model X.prog X.w) X.A (setFlight e none) (fun _ s₃ => wpAny (model X.prog X.w) X.A (handleBy e X.env (h₀ :: hds)) (SP X pins D) X.xe s₃) X.xe s₂) X.xe s₁
  have tk : Takes (X.tr (X.pn ++ pins) E1) (wN X.K D l) := by
    rintro u s' ⟨a, B, sI, pins', τ, G, cls, d, rfl, J', nb, up, sky, na, os, ag, w⟩
    have sk : Sky B (X.env :: X.outer) a (Zc cls d) X.env.locals s'.heap := by rw [← hs]; exact sky
    show wpAny (model X.prog X.w) X.A (noteFrame (.ref a) X.env) _ _ _
    exact Sky.land Zc.steady (show X.A.frames = some (X.env :: X.outer) by rw [ok.frames, hs]) hf sk fun h3 fl up3 => catchN ok hf hN (J'.ofTry ok) nb (up.trans up3) fl na os ag hh w
  refine wpAny_mono ((hb _ (X.pn ++ pins) E1 tk PassesOwn.looking).run [] s σ H D (I.toTry _) h) (fun f s1 sp => ?_) (fun e s1 he => he)
  cases f with
  | next => obtain ⟨τ, G, J, q⟩ := sp; exact wpAny_execs_nil ⟨τ, G, J.ofTry ok, q⟩
  | brk => obtain ⟨τ, G, J, q⟩ := sp; exact ⟨τ, G, J.ofTry ok, q⟩
  | cont => obtain ⟨τ, G, J, q⟩ := sp; exact ⟨τ, G, J.ofTry ok, q⟩
  | ret u => obtain ⟨v, τ, G, J, r, q⟩ := sp; exact ⟨v, τ, G, J.ofTry ok, r, q⟩
end
section
variable {X : Cx} {C fI D1 : Addr} {nm : Str} {p p2 p3 p4 : Pos} {s0 : Str} {kk : Nat} {eo : Expr} {i : Nat}
/-- return '..' + e.field -/
theorem ph_retCat (T : PySem.DLX.ExcT X.prog X.K X.mg nm C fI) (he : ∀ a pn, PE (X.suite a pn) eo (tVar i)) (hb : attributeBase eo "field" X.env (eval eo X.env) = eval eo X.env := by rfl) :
    PHand X [.Return (some (.BinOp (.Constant (.str s0) kk p4) .Add (.Attribute eo "field" p) p3)) p2] (fun a cls d => tSeq (tRet (tOp rAddS (tC (.str s0)) (tXf a cls d C "field" (tVar i)))) tNext) := fun a oe cls d pn hz hf =>
  pss_cons (ps_ret (pe_op op_add_str pe_str (pe_xf (xfC_of T) T.noN hz hf (he _ _) hb))) pss_nil
end
end L2
namespace DL
open PySem L2
section
variable {K : PySem.W.Frag} {es eh : List Sl} {c : Addr} {f : Str} {E : L2.St → XK} {t u tz : TS} {m p q : Option Str} {te : TE} {d : Dt} {tt : TT} {tc : (L2.St → XK) → TE}
/-! ### what raises within a try -/
def GoodY (K : PySem.W.Frag) (F G : Hp) (E : L2.St → XK) (eh : List Sl) (c : Addr) (f : Str) : Prop := ∀ dd G' H' σ', Stt K F G' H' σ' eh → Same G G' → H' dd = some (xdF f) → F dd = none → G' dd = none → E σ' (.ref c) (some dd) H'
theorem GoodY.up {F G G1 : Hp} (h : GoodY K F G E eh c f) (g : Same G G1) : GoodY K F G1 E eh c f := fun dd G' H' σ' s e => h dd G' H' σ' s (g.trans e)
def SMY (K : PySem.W.Frag) (t : TS) (E : L2.St → XK) (es eh : List Sl) (c : Addr) (m : Option Str) : Prop := ∀ f, m = some f → ∀ F G H σ D, Stt K F G H σ es → GoodY K F G E eh c f → t D σ H
theorem smy_none : SMY K t E es eh c none := fun f e => by cases e
theorem smy_bind {α : Type} {m1 : Option α} {f : α → Option Str} (h : ∀ x, m1 = some x → SMY K t E es eh c (f x)) : SMY K t E es eh c (m1.bind f) := fun r e => by
  cases q : m1 with
  | none => rw [q] at e; cases e
  | some x =>
    rw [q] at e
    exact h x q r e
theorem smy_lt {α : Type} {e : α} {f : α → Option Str} (h : ∀ x, e = x → SMY K t E es eh c (f x)) : SMY K t E es eh c (lt e f) := h e rfl
theorem smy_one (h : SMY K (tSeq t tNext) E es eh c m) : SMY K t E es eh c m := h
theorem smy_as {v : TS} (h : SMY K (tSeq t (tSeq u v)) E es eh c m) : SMY K (tSeq (tSeq t u) v) E es eh c m := h
theorem smy_nil (h : SMY K tz E es eh c m) : SMY K (tSeq tNext tz) E es eh c m := h
theorem smy_asg {i : Nat} (h : Ev K te es d) (k : SMY K tz E (es.set i (.d d)) eh c m) : SMY K (tSeq (tAsg te (gName i)) tz) E es eh c m := fun r e F G H σ D s q =>
  h F G H σ s _ fun v G1 H1 s1 g1 r1 => k r e F G1 H1 _ D (s1.set r1) (q.up g1)
theorem smy_drop (h : Ev K te es d) (k : SMY K tz E es eh c m) : SMY K (tSeq (tDrop te) tz) E es eh c m := fun r e F G H σ D s q =>
  h F G H σ s _ fun v G1 H1 s1 g1 r1 => k r e F G1 H1 _ D s1 (q.up g1)
theorem smy_if {b : Bool} (h : EvT K tt es b) (h1 : b = true → SMY K (tSeq t tz) E es eh c p) (h2 : b = false → SMY K (tSeq u tz) E es eh c q) : SMY K (tSeq (tIfS tt t u) tz) E es eh c (if b = true then p else q) := fun r e F G H σ D s k =>
  h F G H σ s _ fun G1 H1 s1 g1 => by
    cases b with
    | true =>
      show t _ σ H1
      exact h1 rfl r e F G1 H1 σ D s1 (k.up g1)
    | false =>
      show u _ σ H1
      exact h2 rfl r e F G1 H1 σ D s1 (k.up g1)
/-- x = call, where the call may raise -/
theorem smy_callA {i : Nat} {x : Option Str} (w : Wk es eh) (hx : ∀ f, x = some f → XvE K tc es c f) (hn : x = none → SMY K (tSeq (tAsg (tc E) (gName i)) tz) E es eh c m) : SMY K (tSeq (tAsg (tc E) (gName i)) tz) E es eh c (tryX x some m) := fun r e F G H σ D s q => by
  cases x with
  | none => exact hn rfl r e F G H σ D s q
  | some g =>
    have e : some g = some r := e
    cases e
    exact hx _ rfl F G H σ s _ E fun dd G' H' s' g' h1 f1 n1 => q dd G' H' σ (s'.wk w) g' h1 f1 n1
theorem smy_callS {x : Option Str} (w : Wk es eh) (hx : ∀ f, x = some f → XvE K tc es c f) (hn : x = none → SMY K (tSeq (tDrop (tc E)) tz) E es eh c m) : SMY K (tSeq (tDrop (tc E)) tz) E es eh c (tryX x some m) := fun r e F G H σ D s q => by
  cases x with
  | none => exact hn rfl r e F G H σ D s q
  | some g =>
    have e : some g = some r := e
    cases e
    exact hx _ rfl F G H σ s _ E fun dd G' H' s' g' h1 f1 n1 => q dd G' H' σ (s'.wk w) g' h1 f1 n1
theorem smy_retX {x : Option Str} (w : Wk es eh) (hx : ∀ f, x = some f → XvE K tc es c f) : SMY K (tSeq (tRet (tc E)) tz) E es eh c x := fun r e F G H σ D s q =>
  hx r e F G H σ s _ E fun dd G' H' s' g' h1 f1 n1 => q dd G' H' σ (s'.wk w) g' h1 f1 n1
theorem smy_es {es' : List Sl} (e : es = es') (h : SMY K t E es' eh c m) : SMY K t E es eh c m := e ▸ h
/-! ### arguments that raise -/
def XvA (K : PySem.W.Frag) (ta : (L2.St → XK) → TA) (es : List Sl) (c : Addr) (f : Str) : Prop := ∀ F G H σ, Stt K F G H σ es → ∀ (Q : List V → Hp → Prop) (E : L2.St → XK),
  (∀ dd G' H', Stt K F G' H' σ es → Same G G' → H' dd = some (xdF f) → F dd = none → G' dd = none → E σ (.ref c) (some dd) H') → ta E σ H Q
theorem xa_hd {ta : TA} (h : XvE K tc es c f) : XvA K (fun E => tCons (tc E) ta) es c f := fun F G H σ s Q E q => h F G H σ s _ E q
theorem xa_tl {tb : TE} {ta : (L2.St → XK) → TA} (hb : Ev K tb es d) (h : XvA K ta es c f) : XvA K (fun E => tCons tb (ta E)) es c f := fun F G H σ s Q E q =>
  hb F G H σ s _ fun v G1 H1 s1 g1 _ => h F G1 H1 σ s1 _ E fun dd G' H' s' g' => q dd G' H' s' (g1.trans g')
theorem xv_mkA {C : Addr} {sp : Sp} {dvs : List V} {E0 : XK} {ta : (L2.St → XK) → TA} (h : XvA K ta es c f) : XvE K (fun E => tMake C sp dvs E0 (ta E)) es c f := fun F G H σ s Q E q => h F G H σ s _ E q
theorem xv_clA {sp : Sp} {dvs : List V} {E0 : XK} {ta : (L2.St → XK) → TA} (h : XvA K ta es c f) : XvE K (fun E => tCall sp dvs E0 (ta E)) es c f := fun F G H σ s Q E q => h F G H σ s _ E q
theorem smy_set {i : Nat} {es' : List Sl} (h : Ev K te es d) (he : es.set i (.d d) = es') (k : SMY K tz E es' eh c m) : SMY K (tSeq (tAsg te (gName i)) tz) E es eh c m := smy_asg h (he ▸ k)
theorem smx_set {E : XK} {i : Nat} {es' : List Sl} (h : Ev K te es d) (he : es.set i (.d d) = es') (k : SMX K tz E es' c m) : SMX K (tSeq (tAsg te (gName i)) tz) E es c m := smx_asg h (he ▸ k)
theorem smx_own {E : XK} {i : Nat} {es' : List Sl} {ds : List Dt} (h : EvL K te es ds) (he : es.set i (.own none ds) = es') (k : SMX K tz E es' c m) : SMX K (tSeq (tAsg te (gName i)) tz) E es c m := fun r e F G H σ D s q =>
  h F G H σ s _ fun p vs G1 H1 s1 hF g1 r1 => k r e F G1 H1 _ D (he ▸ s1.take hF r1) (q.up g1)
/-- x = .., which raises -/
theorem smx_asgX {E : XK} {E' : L2.St → XK} {g : TG} {x : Option Str} (hE : E' = fun _ => E) (hx : ∀ f, x = some f → XvE K tc es c f) : SMX K (tSeq (tAsg (tc E') g) tz) E es c x := fun f e F G H σ D s q => by
  subst hE
  exact hx f e F G H σ s _ (fun _ => E) fun dd G' H' s' g' h1 f1 n1 => q dd G' H' s'.f s'.g s'.dj g' h1 f1 n1
end
/-! ### loops that raise -/
def stX {S R : Type} (k kb : S → Option Str) : Fl S R → Option Str
  | .nx s => k s
  | .bk s => kb s
  | .rt _ => none
def forX {α S R : Type} (fx : α → S → Option Str) (fn : α → S → Option (Fl S R)) (k : S → Option Str) : List α → S → Option Str
  | [], s => k s
  | x :: xs, s => match fx x s with
    | some g => some g
    | none => (fn x s).bind (stX (fun s' => forX fx fn k xs s') k)
section
variable {K : PySem.W.Frag} {es : List Sl} {α S R : Type} {tz tb : TS} {c : Addr} {E : XK}
theorem smx_forX {xs : List α} {em : α → Dt} {wi : TI} {g : TG} {vs : List Nat} {env : S → List Sl} {en2 : α → S → List Sl} {ed : R → Dt} {ee : R → List Sl} {s0 : S} {fx : α → S → Option Str} {fn : α → S → Option (Fl S R)} {k : S → Option Str}
    (hi : EvI K wi es (xs.map em)) (w : Wk es (env s0)) (hg : ∀ x s, EvG K g vs (env s) (em x) (en2 x s)) (hx : ∀ x s, SMX K tb E (en2 x s) c (fx x s)) (hb : ∀ x s, SM K tb (en2 x s) (fn x s) (bodyRes env ed ee)) (hk : ∀ s, SMX K tz E (env s) c (k s)) :
    SMX K (tSeq (tFor wi g tb) tz) E es c (forX fx fn k xs s0) := fun r e F G H σ D st q => by
  refine hi F G H σ st _ fun J G1 H1 s1 g1 y => ?_
  refine ⟨fun i m σ' H' => ∃ G' s, Stt K F G' H' σ' (env s) ∧ Same G1 G' ∧ m = xs.length - i ∧ i ≤ xs.length ∧ forX fx fn k (xs.drop i) s = some r, ⟨_, G1, s0, s1.wk w, Same.refl _, rfl, Nat.zero_le _, e⟩, ?_⟩
  rintro i m σ' H' ⟨G', s, st', g', rfl, hle, e'⟩
  by_cases hlt : i < xs.length
  · refine .inr ?_
    have hd : xs.drop i = xs[i] :: xs.drop (i + 1) := List.drop_eq_getElem_cons hlt
    rw [hd] at e'
    obtain ⟨go, yld⟩ := (y i F G' H' σ' (env s) g' st').1 (em xs[i]) (by rw [List.getElem?_map, List.getElem?_eq_getElem hlt]; rfl)
    refine ⟨go, fun σ2 H2 => ∃ G2 s2, Stt K F G2 H2 σ2 (env s2) ∧ Same G1 G2 ∧ forX fx fn k (xs.drop (i + 1)) s2 = some r, fun σ2 H2 ⟨G2, s2, a1, a2, a3⟩ => ⟨xs.length - (i + 1), by omega, G2, s2, a1, a2, rfl, by omega, a3⟩, fun x H2 hy => ?_⟩
    obtain ⟨G2, st2, g2, rx⟩ := yld x H2 hy
    refine hg xs[i] s F G2 H2 σ' x st2 rx _ fun σ3 G3 H3 st3 g3 _ _ => ?_
    have gg := g1.trans (g'.trans (g2.trans g3))
    cases hf : fx xs[i] s with
    | some z =>
      have e2 : forX fx fn k (xs[i] :: xs.drop (i + 1)) s = some z := by
        show (match fx xs[i] s with | some g => some g | none => _) = _
        rw [hf]
      rw [e2] at e'
      cases e'
      exact hx xs[i] s r hf F G3 H3 σ3 _ st3 (q.up gg)
    | none =>
      have e2 : forX fx fn k (xs[i] :: xs.drop (i + 1)) s = (fn xs[i] s).bind (stX (fun s' => forX fx fn k (xs.drop (i + 1)) s') k) := by
        show (match fx xs[i] s with | some g => some g | none => _) = _
        rw [hf]
      rw [e2] at e'
      cases ho : fn xs[i] s with
      | none => rw [ho] at e'; cases e'
      | some o =>
        rw [ho] at e'
        refine hb xs[i] s o ho F G3 H3 σ3 _ st3 ?_
        cases o with
        | nx s' => exact ⟨fun G4 H4 σ4 st4 g4 => ⟨G4, s', st4, g'.trans (g2.trans (g3.trans g4)), e'⟩, fun G4 H4 σ4 st4 g4 => ⟨G4, s', st4, g'.trans (g2.trans (g3.trans g4)), e'⟩⟩
        | bk s' => exact fun G4 H4 σ4 st4 g4 => hk s' r e' F G4 H4 σ4 D st4 (q.up (gg.trans g4))
        | rt r' => cases e'
  · have e3 : i = xs.length := by omega
    subst e3
    refine .inl ⟨(y xs.length F G' H' σ' (env s) g' st').2 (by simp), ?_⟩
    rw [List.drop_length] at e'
    exact hk s r e' F G' H' σ' D st' (q.up (g1.trans g'))
end
/-! ### the suites -/
section
variable {K : PySem.W.Frag} {a dd c : Addr} {i : Nat} {f : Str} {ta tb : TE} {es : List Sl}
theorem evh_addS {g h : Str} (ha : EvH K a dd i f ta es (.str g)) (hb : EvH K a dd i f tb es (.str h)) (hz : g.length + h.length ≤ 16777216) : EvH K a dd i f (tOp rAddS ta tb) es (.str (g ++ h)) :=
  evh_op ha hb fun F G H σ es x y s rx ry Q q => by
    cases rx
    cases ry
    exact ⟨_, _, rfl, rfl, by rw [sizeLine_eq]; exact hz, q _ G H s (Same.refl _) (.str _)⟩
end
section
variable {K : PySem.W.Frag} {a dd : Addr} {i : Nat} {f : Str} {t : TS} {es : List Sl} {ρ : Type} {p : Option ρ} {oc : ρ → Res} {b : Prop} [Decidable b]
theorem smh_ite (h : b → SMH K a dd i f t es p oc) : SMH K a dd i f t es (if b then p else none) oc := fun r e => by
  by_cases q : b
  · rw [if_pos q] at e
    exact h q r e
  · rw [if_neg q] at e
    cases e
theorem catS_len {g h : Str} (hh : h.length ≤ 1000) (hg : g.length ≤ 1000 := by decide) : g.length + h.length ≤ 16777216 := by
  have : g.length + h.length ≤ 2000 := by omega
  exact Nat.le_trans this (by decide)
end
/-! ### the try -/
section
variable {K : PySem.W.Frag} {es : List Sl} {ρ : Type} {tb : WX → TS} {c C1 C2 : Addr} {i : Nat} {x x1 x2 : Option Str} {m : Option ρ} {oc : ρ → Res}
theorem caught {ts : Addr → Value → Option Addr → TS} {f : Str} {hm : Str → Option ρ} {F G0 G H : Hp} {σ : L2.St} {D : Ends} {r : ρ} {dd a : Addr} (hu : es[i]? = some .un) (hh : ∀ a dd f, SMH K a dd i f (ts a (.ref c) (some dd)) es (hm f) oc)
    (ho : ∀ r fs, oc r = .nx fs → fs[i]? = some .un) (hno : ∀ r, (∃ fs, oc r = .nx fs) ∨ ∃ d fs, oc r = .rt d fs) (e : hm f = some r) (s1 : Stt K F G H σ es) (g1 : Same G0 G) (h1 : H dd = some (xdF f)) (f1 : F dd = none) (n1 : G dd = none) (q : Good K F G0 D (oc r)) :
    ts a (.ref c) (some dd) (uset D i) (σ.set i (some (.ref a))) H := by
  have hi : i < σ.length := by rw [s1.len]; exact (List.getElem?_eq_some_iff.mp hu).1
  have es' : es.set i .un = es := List.ext_getElem? fun k => by
    by_cases q : i = k
    · subst q
      rw [List.getElem?_set_self (List.getElem?_eq_some_iff.mp hu).1, hu]
    · rw [List.getElem?_set_ne q]
  have s2 : Stt K (upd F dd (xdF f)) G H (σ.set i (some (.ref a))) es := by
    have := (s1.hold h1 n1 f1).undo i (some (.ref a))
    rw [es'] at this
    exact this
  refine hh a dd f r e _ G H _ _ s2 ⟨upd_same, List.getElem?_set_self hi⟩ ?_
  rcases hno r with ⟨fs, w⟩ | ⟨d, fs, w⟩
  · have wi := ho r fs w
    rw [w] at q ⊢
    intro G2 H2 σ2 s3 g2
    refine q G2 H2 (σ2.set i none) ?_ (g1.trans g2)
    have := (s3.loose f1).undo i none
    have e3 : fs.set i .un = fs := List.ext_getElem? fun k => by
      by_cases q : i = k
      · subst q
        rw [List.getElem?_set_self (List.getElem?_eq_some_iff.mp wi).1, wi]
      · rw [List.getElem?_set_ne q]
    rw [e3] at this
    exact this
  · rw [w] at q ⊢
    intro v G2 H2 σ2 s3 g2 r2
    exact q v G2 H2 σ2 (s3.loose f1) (g1.trans g2) r2
variable {R : Type} {env : Unit → List Sl} {ed : R → Dt} {ee : R → List Sl} {mF : Option (Fl Unit R)}
theorem lr_nx (he2 : (env ())[i]? = some .un) : ∀ (r : Fl Unit R) fs, loopRes env ed ee r = .nx fs → fs[i]? = some .un := fun r fs h => by
  cases r with
  | nx s => cases h; exact he2
  | bk s => cases h; exact he2
  | rt r => cases h
theorem lr_no : ∀ (r : Fl Unit R), (∃ fs, loopRes env ed ee r = .nx fs) ∨ ∃ d fs, loopRes env ed ee r = .rt d fs := fun r => by
  cases r with
  | nx s => exact .inl ⟨_, rfl⟩
  | bk s => exact .inl ⟨_, rfl⟩
  | rt r => exact .inr ⟨_, _, rfl⟩
/-- one clause: what is raised is of the class c, the clause names C1 -/
theorem sm_tryN1 {ts : Addr → Value → Option Addr → TS} {hm : Str → Option (Fl Unit R)} (he : PySem.W.exmOne K (.ref c) (.ref C1) = some true) (hu : es[i]? = some .un) (he2 : (env ())[i]? = some .un)
    (hx : ∀ W, SMY K (tb W) (WE W) es es c x) (hn : x = none → ∀ W, SM K (tb W) es mF (loopRes env ed ee)) (hh : ∀ a dd f, SMH K a dd i f (ts a (.ref c) (some dd)) es (hm f) (loopRes env ed ee)) :
    SM K (fun D σ H => tb (wN K D [(.ref C1, i, ts)]) D σ H) es (tryX x hm mF) (loopRes env ed ee) := fun r e F G H σ D s q => by
  cases x with
  | none => exact hn rfl _ r e F G H σ D s q
  | some f =>
    refine hx _ f rfl F G H σ D s fun dd G' H' σ' s1 g1 h1 f1 n1 => ⟨true, he, fun _ a ha => ?_, fun z => by cases z⟩
    exact caught hu hh (lr_nx he2) lr_no e s1 g1 h1 f1 n1 q
/-- two clauses -/
theorem sm_tryN2 {ts1 ts2 : Addr → Value → Option Addr → TS} {hm1 hm2 : Str → Option (Fl Unit R)} (e1 : PySem.W.exmOne K (.ref C1) (.ref C1) = some true) (e2 : PySem.W.exmOne K (.ref C2) (.ref C2) = some true) (e3 : PySem.W.exmOne K (.ref C2) (.ref C1) = some false) (hu : es[i]? = some .un) (he2 : (env ())[i]? = some .un)
    (hx1 : ∀ W, SMY K (tb W) (WE W) es es C1 x1) (hx2 : ∀ W, SMY K (tb W) (WE W) es es C2 x2) (hn : x1 = none → x2 = none → ∀ W, SM K (tb W) es mF (loopRes env ed ee)) (hh1 : ∀ a dd f, SMH K a dd i f (ts1 a (.ref C1) (some dd)) es (hm1 f) (loopRes env ed ee)) (hh2 : ∀ a dd f, SMH K a dd i f (ts2 a (.ref C2) (some dd)) es (hm2 f) (loopRes env ed ee)) :
    SM K (fun D σ H => tb (wN K D [(.ref C1, i, ts1), (.ref C2, i, ts2)]) D σ H) es (tryX x1 hm1 (tryX x2 hm2 mF)) (loopRes env ed ee) := fun r e F G H σ D s q => by
  cases x1 with
  | some f =>
    refine hx1 _ f rfl F G H σ D s fun dd G' H' σ' s1 g1 h1 f1 n1 => ⟨true, e1, fun _ a ha => ?_, fun z => by cases z⟩
    exact caught hu hh1 (lr_nx he2) lr_no e s1 g1 h1 f1 n1 q
  | none =>
    cases x2 with
    | none => exact hn rfl rfl _ r e F G H σ D s q
    | some f =>
      refine hx2 _ f rfl F G H σ D s fun dd G' H' σ' s1 g1 h1 f1 n1 => ⟨false, e3, (fun z => by cases z), fun _ => ⟨true, e2, (fun _ a ha => ?_), (fun z => by cases z)⟩⟩
      exact caught hu hh2 (lr_nx he2) lr_no e s1 g1 h1 f1 n1 q
end
end DL

/-! Dl19: own lists that an expression reads as data, and that may be written to afterwards -/
namespace DL
open PySem L2
/-- own lists read as data -/
def Brw : List Sl → List Sl → Prop
  | [], [] => True
  | a :: as, b :: bs => (b = .un ∨ (a = b ∧ a.isOwn = false) ∨ ∃ p xs, a = .own p xs ∧ b = .d (.lst xs)) ∧ Brw as bs
  | _, _ => False
theorem Brw.len : ∀ {as bs : List Sl}, Brw as bs → as.length = bs.length
  | [], [], _ => rfl
  | _ :: _, _ :: _, h => congrArg (· + 1) (Brw.len h.2)
  | [], _ :: _, h => h.elim
  | _ :: _, [], h => h.elim
theorem Brw.get : ∀ {as bs : List Sl} {i : Nat} {b : Sl}, Brw as bs → bs[i]? = some b → ∃ a, as[i]? = some a ∧ (b = .un ∨ (a = b ∧ a.isOwn = false) ∨ ∃ p xs, a = .own p xs ∧ b = .d (.lst xs))
  | [], [], _, _, _, e => by simp at e
  | a :: as, b :: bs, 0, c, h, e => by simp at e; subst e; exact ⟨a, rfl, h.1⟩
  | a :: as, b :: bs, i + 1, c, h, e => by
    obtain ⟨x, h1, h2⟩ := Brw.get (i := i) h.2 (by simpa using e)
    exact ⟨x, by simpa using h1, h2⟩
  | [], _ :: _, _, _, h, _ => h.elim
  | _ :: _, [], _, _, h, _ => h.elim
theorem Brw.noown {as bs : List Sl} (h : Brw as bs) {i : Nat} {b : Sl} (e : bs[i]? = some b) : b.isOwn = false := by
  obtain ⟨a, _, q⟩ := h.get e
  rcases q with rfl | ⟨rfl, q⟩ | ⟨p, xs, _, rfl⟩
  · rfl
  · exact q
  · rfl
section
variable {K : PySem.W.Frag} {F G H H1 : Hp} {σ : L2.St} {es es' : List Sl}
theorem same_remF (s : Stt K F G H σ es) : Same G (DL.rem F H) := fun a o e => by
  have hF : F a = none := by
    cases q : F a with
    | none => rfl
    | some x => rw [s.dj a x q] at e; cases e
  rw [rem_of hF]
  exact s.g a o e
theorem Stt.borrow (s : Stt K F G H σ es) (b : Brw es es') : Stt K F (DL.rem F H) H σ es' where
  f := s.f
  g := fun a o e => (rem_some e).1
  dj := fun a o e => by
    unfold DL.rem
    rw [e]
  len := by rw [s.len, b.len]
  sl := fun i t e => by
    obtain ⟨a, ea, q⟩ := b.get e
    obtain ⟨o, ho, k⟩ := s.sl i a ea
    refine ⟨o, ho, ?_⟩
    rcases q with rfl | ⟨rfl, q⟩ | ⟨p, xs, rfl, rfl⟩
    · trivial
    · cases a with
      | un => trivial
      | d x =>
        obtain ⟨v, e, r⟩ := k
        exact ⟨v, e, r.mono (same_remF s)⟩
      | own p xs => cases q
      | obo p C fs => cases q
      | prv x => cases q
    · obtain ⟨p', vs, eo, gp, fp, hp, rr, _⟩ := k
      exact ⟨.ref p', eo, .lst (.inl (.inl (by rw [rem_of fp]; exact hp))) (rr.mono (same_remF s))⟩
  sp := fun i j t u x y a ne ei ej hi hj ha hb => by
    have := b.noown ei
    cases t with
    | un => exact ha
    | d _ => exact ha
    | _ => cases this
/-- the heap has grown -/
theorem Stt.grown (s : Stt K F G H σ es) (h : Same H H1) : Stt K F G H1 σ es where
  f := s.f.trans h
  g := s.g.trans h
  dj := s.dj
  len := s.len
  sl := fun i t e => by
    obtain ⟨o, ho, k⟩ := s.sl i t e
    exact ⟨o, ho, k.grow (Same.refl _) (fun p u _ _ e => h _ _ e) fun p g _ f => ⟨g, f⟩⟩
  sp := s.sp
/-- data that tells itself -/
def Flat (d : Dt) : Prop := ∀ (K : PySem.W.Frag) (G G' : Hp) (v : V), Rep K G v d → Rep K G' v d
theorem flat_int {i : Int} : Flat (.int i) := fun K G G' v r => by cases r; exact .int i
theorem flat_bl {i : Bool} : Flat (.bl i) := fun K G G' v r => by cases r; exact .bl i
theorem flat_str {i : Str} : Flat (.str i) := fun K G G' v r => by cases r; exact .str i
theorem flat_all {ds : List Dt} (h : ∀ d ∈ ds, Flat d) : ∀ (G G' : Hp) (vs : List V), Reps K G vs ds → Reps K G' vs ds := by
  induction ds with
  | nil => intro G G' vs r; cases r; exact .nil
  | cons d ds ih =>
    intro G G' vs r
    cases r with
    | cons a b => exact .cons (h d List.mem_cons_self K G G' _ a) (ih (fun d hd => h d (List.mem_cons_of_mem _ hd)) G G' _ b)
theorem flats_int {xs : List Int} : ∀ d ∈ xs.map Dt.int, Flat d := fun d h => by
  obtain ⟨x, _, rfl⟩ := List.mem_map.mp h
  exact flat_int
theorem same_all (s : Stt K F G H σ es) {G1 : Hp} (f1 : Same F H1) (g1 : Same G1 H1) (g : Same (DL.rem F H) G1) : Same H H1 := fun a o e => by
  cases q : F a with
  | some x =>
    have := s.f a x q
    rw [e] at this
    cases this
    exact f1 a o q
  | none => exact g1 a o (g a o (by rw [rem_of q]; exact e))
variable {te : TE} {d : Dt} {ds : List Dt}
theorem ev_borrow (b : Brw es es') (h : Ev K te es' d) (hd : Flat d) : Ev K te es d := fun F G H σ s Q q =>
  h F _ H σ (s.borrow b) _ fun v G1 H1 s1 g1 r1 => q v G H1 (s.grown (same_all s s1.f s1.g g1)) (Same.refl _) (hd K _ _ v r1)
theorem el_borrow (b : Brw es es') (h : EvL K te es' ds) (hd : ∀ d ∈ ds, Flat d) : EvL K te es ds := fun F G H σ s Q q =>
  h F _ H σ (s.borrow b) _ fun p vs G1 H1 s1 hp g1 r1 => by
    have f1 : Same F H1 := fun a o e => s1.f a o (by rw [upd_ne (ne_of_none e hp)]; exact e)
    have sm := same_all s f1 s1.g g1
    have gp1 : G1 p = none := s1.dj p _ upd_same
    have hH : H p = none := by
      cases z : H p with
      | none => rfl
      | some o =>
        have : DL.rem F H p = some o := by rw [rem_of hp]; exact z
        have := g1 p o this
        rw [gp1] at this
        cases this
    have hG : G p = none := s.gnone hH
    have e := s.grown sm
    refine q p vs G H1 ⟨fun a o e => ?_, e.g, fun a o e => ?_, e.len, fun i t et => ?_, e.sp⟩ hp (Same.refl _) (flat_all hd _ _ _ r1)
    · exact s1.f a o e
    · by_cases za : a = p
      · subst za
        exact hG
      · rw [upd_ne za] at e
        exact s.dj a o e
    · obtain ⟨o, ho, k⟩ := s.sl i t et
      refine ⟨o, ho, k.grow (Same.refl _) (fun p u _ _ e => sm _ _ e) fun r g ⟨u, hu⟩ f => ⟨g, ?_⟩⟩
      rw [upd_ne (by rintro rfl; rw [hH] at hu; cases hu)]
      exact f
end
end DL

/-! Dl20: isinstance of a caught exception of an own class with a field -/
namespace L2
open PySem PySem.Spec PyProof.Rows
/-- what isinstance asks of the class D -/
structure IsX (K : PySem.W.Frag) (D : Addr) : Prop where
  ga : PySem.W.findIn K (.ref D) "__getattribute__" = some (some (.builtin "BaseException.__getattribute__"))
  gg : PySem.W.findIn K (.ref D) "__getattr__" = some none
  sub : PySem.W.subIn K (.ref D) (.type "BaseException") = some true
  hd : PySem.W.hasDictIn K D = true
  ia : PySem.W.findIn K (.ref D) "__class__" = some (some (.builtin "object.__class__"))
  ib : PySem.W.specialIn K (.builtin "object.__class__") "__get__" = some (some (.builtin "getset_descriptor.__get__"))
  ic : PySem.W.takesIn K (.builtin "object.__class__") = some true
  id : PySem.W.mroIn K D (.type "object") = some true
def rIsX (K : PySem.W.Frag) (D a : Addr) (cls : Value) (d : Option Addr) : List V → Hp → VK → Prop := fun xs H Q => ∃ (c : V) (cv : Value) (b : Bool) (dd : Addr) (fs : List (Str × V)), xs = [.ref a, c] ∧ cls = .ref D ∧ d = some dd ∧ H dd = some (.xd fs) ∧ (∀ u, RelV c u → u = cv) ∧ PySem.W.kitOne K (.ref D) cv = some b ∧ Q (.bl b) H
theorem call_isX {X : Cx} {a D : Addr} {oe : Obj} {cls : Value} {d : Option Addr} {pn : List (Addr × Obj)} (C : IsX X.K D) (hz : Zc cls d oe) (hf : ∃ vs, oe.data = .fields vs) : CallR (X.suite a ((a, oe) :: pn)) (.builtin "isinstance") (rIsX X.K D a cls d) := by
  intro pins s σ H xs us Q I r h
  obtain ⟨c, cv, b, dd, fs, rfl, ec, ed, ea, hcv, e, q⟩ := h
  subst ec
  subst ed
  cases r with
  | cons rx rr =>
    cases rr with
    | cons rt rr =>
      cases rr
      cases rx
      have ec := hcv _ rt
      subst ec
      obtain ⟨hget, _⟩ := I.pin (a, oe) (List.mem_append.mpr (.inl List.mem_cons_self))
      obtain ⟨vs, hv⟩ := hf
      have hx : ObjOk X.prog X.w H s.heap dd (.xd fs) := I.hok dd _ ea
      obtain ⟨mA, hns, _⟩ := hx
      obtain ⟨od, ho, _⟩ := lookIn_ns hns
      have J : PySem.W.InstAt s.heap a oe D (some od) := ⟨hget, hz.1, by unfold PySem.W.notCls; rw [hv] <;> rfl, by rw [hz.2]; exact ho⟩
      have hcl : (PySem.W.clsIn X.K D).isSome = true := by
        obtain ⟨cd, hc, _⟩ := PySem.W.any_some C.hd
        rw [hc]
        rfl
      exact PySem.W.kia_one (PySem.W.kitx_exc hcl C.ga C.gg C.sub C.ia C.ib C.ic C.id) I.kIn J e (fun z => nomatch z) fun tk => ⟨.bl b, H, I.kept (t' := tk) fun _ _ z => z, rfl, q⟩
end L2
namespace DL
open PySem L2
section
variable {K : PySem.W.Frag} {a dd c : Addr} {i : Nat} {f : Str} {te ta tb : TE} {es : List Sl} {b x y : Bool}
theorem evh_isX {v : V} {cv : Value} (hv : ∀ u, RelV v u → u = cv) (e : PySem.W.kitOne K (.ref c) cv = some b) : EvH K a dd i f (tCB (rIsX K c a (.ref c) (some dd)) (tCons (tVar i) (tCons (tC v) tNil))) es (.bl b) := fun F G H σ s h Q q =>
  ⟨_, h.2, v, cv, b, dd, _, rfl, rfl, rfl, s.f _ _ h.1, hv, e, q _ G H s (Same.refl _) (.bl b)⟩
theorem evh_and (h1 : EvH K a dd i f ta es (.bl x)) (h2 : EvH K a dd i f tb es (.bl y)) : EvH K a dd i f (tAndV ta tb) es (.bl (x && y)) := fun F G H σ s h Q q => h1 F G H σ s h _ fun v G1 H1 s1 g1 r1 => by
  cases r1
  refine ⟨x, rfl, ?_⟩
  cases x with
  | true => exact h2 F G1 H1 σ s1 h Q fun v G2 H2 s2 g2 r2 => q v G2 H2 s2 (g1.trans g2) r2
  | false => exact q _ G1 H1 s1 g1 (.bl false)
theorem evh_not (h1 : EvH K a dd i f ta es (.bl x)) : EvH K a dd i f (tNotV ta) es (.bl (!x)) := fun F G H σ s h Q q => h1 F G H σ s h _ fun v G1 H1 s1 g1 r1 => by
  cases r1
  exact ⟨x, rfl, q _ G1 H1 s1 g1 (.bl _)⟩
end
end DL

/-! Dl21: expressions that change the slots (an own list given to a def that writes to it); texts -/
namespace DL
open PySem L2 PySem.Spec
section
variable {K : PySem.W.Frag} {es es1 es2 es' fs : List Sl} {te ta tb : TE} {t : TA} {a b c d : Dt} {ds : List Dt} {r : R2} {tt : TT}
/-- an expression that leaves the slots es' -/
def EvM (K : PySem.W.Frag) (te : TE) (es es' : List Sl) (d : Dt) : Prop := ∀ F G H σ, Stt K F G H σ es → ∀ Q : VK, (∀ v G' H', Stt K F G' H' σ es' → Same G G' → Rep K G' v d → Q v H') → te σ H Q
def EvMA (K : PySem.W.Frag) (ta : TA) (es es' : List Sl) (ds : List Dt) : Prop := ∀ F G H σ, Stt K F G H σ es → ∀ Q : List V → Hp → Prop, (∀ vs G' H', Stt K F G' H' σ es' → Same G G' → Reps K G' vs ds → Q vs H') → ta σ H Q
def EvMT (K : PySem.W.Frag) (tt : TT) (es es' : List Sl) (b : Bool) : Prop := ∀ F G H σ, Stt K F G H σ es → ∀ Q : Bool → Hp → Prop, (∀ G' H', Stt K F G' H' σ es' → Same G G' → Q b H') → tt σ H Q
theorem evm_of (h : Ev K te es d) : EvM K te es es d := h
theorem eam_nil : EvMA K tNil es es [] := ea_nil
theorem eam_cons {tr : TA} (ha : EvM K ta es es1 a) (hr : EvMA K tr es1 es2 ds) : EvMA K (tCons ta tr) es es2 (a :: ds) := fun F G H σ s Q q =>
  ha F G H σ s _ fun x G1 H1 s1 g1 r1 => hr F G1 H1 σ s1 _ fun xs G2 H2 s2 g2 r2 => q _ G2 H2 s2 (g1.trans g2) (.cons (r1.mono g2) r2)
theorem eam_of (h : EvA K t es ds) : EvMA K t es es ds := h
theorem evm_is (h : EvM K te es es' a) (e : a = b) : EvM K te es es' b := e ▸ h
theorem evm_op (ha : EvM K ta es es1 a) (hb : EvM K tb es1 es2 b) (hr : R2D K r a b c) : EvM K (tOp r ta tb) es es2 c := fun F G H σ s Q q =>
  ha F G H σ s _ fun x G1 H1 s1 g1 r1 => hb F G1 H1 σ s1 _ fun y G2 H2 s2 g2 r2 => hr F G2 H2 σ es2 x y s2 (r1.mono g2) r2 Q fun v G3 H3 s3 g3 r3 => q v G3 H3 s3 (g1.trans (g2.trans g3)) r3
theorem evm_cb {r : List V → Hp → VK → Prop} (h : EvMA K t es es' ds) (hr : RLD K r ds c) : EvM K (tCB r t) es es' c := fun F G H σ s Q q =>
  h F G H σ s _ fun xs G1 H1 s1 g1 r1 => hr F G1 H1 σ es' xs s1 r1 Q fun v G3 H3 s3 g3 r3 => q v G3 H3 s3 (g1.trans g3) r3
theorem evm_un {r : V → Hp → VK → Prop} (ha : EvM K ta es es' a) (hr : R1D K r a c) : EvM K (tUn r ta) es es' c := fun F G H σ s Q q =>
  ha F G H σ s _ fun x G1 H1 s1 g1 r1 => hr F G1 H1 σ es' x s1 r1 Q fun v G3 H3 s3 g3 r3 => q v G3 H3 s3 (g1.trans g3) r3
theorem evm_tup (h : EvMA K t es es' ds) (hl : ds.length ≤ 100000) : EvM K (tTup t) es es' (.tup ds) := fun F G H σ s Q q =>
  h F G H σ s _ fun xs G1 H1 s1 g1 r1 => ⟨by rw [r1.length]; exact Nat.le_trans hl (by decide), fun p hp =>
    q _ _ _ (s1.new hp) (g1.trans (same_upd (s1.gnone hp))) (.tup (.inl (.inl upd_same)) (r1.mono (same_upd (s1.gnone hp))))⟩
/-- what a rule says of two values, as a relation -/
theorem r2_of (h : Ev K (tOp r (tVar 0) (tVar 1)) [.d a, .d b] c) : R2D K r a b c := fun F G H σ es x y s rx ry Q q => by
  have s2 : Stt K (DL.rem G H) G H [some x, some y] [.d a, .d b] := stt_data (vs := [x, y]) (ds := [a, b]) s.rem.1 s.g s.rem.2 (.cons rx (.cons ry .nil))
  obtain ⟨v, ev, w, ew, k⟩ := h _ G H _ s2 Q fun v G1 H1 s1 g1 r1 => q v G1 H1 (s.after s1.f s1.g s1.dj g1) g1 r1
  cases ev
  cases ew
  exact k
theorem r1_of {r : V → Hp → VK → Prop} (h : Ev K (tUn r (tVar 0)) [.d a] c) : R1D K r a c := fun F G H σ es x s rx Q q => by
  have s2 : Stt K (DL.rem G H) G H [some x] [.d a] := stt_data (vs := [x]) (ds := [a]) s.rem.1 s.g s.rem.2 (.cons rx .nil)
  obtain ⟨v, ev, k⟩ := h _ G H _ s2 Q fun v G1 H1 s1 g1 r1 => q v G1 H1 (s.after s1.f s1.g s1.dj g1) g1 r1
  cases ev
  exact k
theorem rl_of1 {r : List V → Hp → VK → Prop} (h : Ev K (tCB r (tCons (tVar 0) tNil)) [.d a] c) : RLD K r [a] c := fun F G H σ es xs s rx Q q => by
  cases rx with
  | cons rx rr =>
    cases rr
    rename_i x
    have s2 : Stt K (DL.rem G H) G H [some x] [.d a] := stt_data (vs := [x]) (ds := [a]) s.rem.1 s.g s.rem.2 (.cons rx .nil)
    obtain ⟨v, ev, k⟩ := h _ G H _ s2 Q fun v G1 H1 s1 g1 r1 => q v G1 H1 (s.after s1.f s1.g s1.dj g1) g1 r1
    cases ev
    exact k
/-- f(..), all arguments data -/
theorem evm_call {P : List Dt → Dt → Prop} {E : XK} (ha : EvMA K t es es' ds) (hP : P ds d) : EvM K (tCall (FSpec K (RD P)) [] E t) es es' d := fun F G H σ s Q q =>
  ha F G H σ s _ fun vs G1 H1 s1 g1 r1 => by
    show FSpec K (RD P) (vs ++ []) H1 Q E
    rw [List.append_nil]
    exact ⟨DL.rem G1 H1, G1, ds.map .d, d, ds.map .d, stt_data s1.rem.1 s1.g s1.rem.2 r1, ⟨_, rfl, rfl, hP⟩, fun v G2 H2 s2 g2 r2 => q v G2 H2 (s1.after s2.f s2.g s2.dj g2) (g1.trans g2) r2⟩
/-! ### defs that write to their first argument, a list -/
def RMu (P : List Dt → List Dt → Dt → List Dt → Prop) : List Sl → Dt → List Sl → Prop := fun ss d ss' => ∃ p xs ds ys, ss = .own (some p) xs :: ds.map .d ∧ ss' = .own (some p) ys :: ds.map .d ∧ P xs ds d ys
theorem own_data {F G H : Hp} {p : Addr} {vs ws : List V} {xs ds : List Dt} (f : Same F H) (g : Same G H) (dj : ∀ a o, F a = some o → G a = none) (gp : G p = none) (fp : F p = none) (hp : H p = some (.lst ws)) (rw' : Reps K G ws xs) (r : Reps K G vs ds) :
    Stt K F G H ((V.ref p :: vs).map some) (.own (some p) xs :: ds.map .d) := by
  have base := stt_data f g dj r
  refine ⟨f, g, dj, by rw [List.map_cons, List.length_cons, List.length_cons, base.len], fun i t e => ?_, sp_one⟩
  · cases i with
    | zero =>
      cases e
      exact ⟨_, rfl, p, ws, rfl, gp, fp, hp, rw', fun q e => (Option.some.inj e).symm⟩
    | succ i => exact base.sl i t e
end
section
open PyProof.Rows
variable {P : Program} {w : World} {K : PySem.W.Frag} {mg : Str → Option Value} {base : Heap}
theorem fn_M {x qual : Str} {st : Stmt} {f : Addr} {fd : FuncData} {N ps : List Str} {k : Nat} {R : List Dt → List Dt → Dt → List Dt → Prop} (F : Fun K x qual st f fd) (S : FnScope N ps (defScope st)) (hl : ∀ xs ds d ys, R xs ds d ys → ds.length + 1 = ps.length)
    (body : ∀ (cdv : Value) (A : Around) (outer : List Env) (s : Shared) (H : Hp) (E : XK), Room k (A.deeper (PyProof.Rows.envOfC qual (defScope st) s.heap.objs.size f cdv)) →
      ∃ t, PSs (cxOf CX0 P w K mg base N qual (defScope st) f cdv A outer s H E).nox (defBody st) t ∧ ∀ p xs ds d ys, R xs ds d ys → ∃ o es, SEv K t (.own (some p) xs :: ds.map .d ++ List.replicate (N.length - ps.length) .un) o ∧ Ends2 d (.own (some p) ys :: es) o) :
    FnOk P w K mg base CX0 (k + 1) f fd ps (FSpec K (RMu R)) := by
  refine F.ok S (fun vs H Q E h => ?_) (fun cdv A outer s H vs Q E hr h => ?_)
  · obtain ⟨F, G, ss, d, ss', s, ⟨p, xs, ds, ys, rfl, _, hR⟩, _⟩ := h
    have := s.len
    rw [List.length_map, List.length_cons, List.length_map, hl xs ds d ys hR] at this
    exact this
  · obtain ⟨t, ht, hb⟩ := body cdv A outer s H E hr
    refine ⟨t, ht, ?_⟩
    obtain ⟨F1, G, ss, d, ss', st1, ⟨p, xs, ds, ys, rfl, rfl, hR⟩, q⟩ := h
    obtain ⟨o, es, hs, he⟩ := hb p xs ds d ys hR
    refine hs F1 G H _ _ (stt_start st1 (by rw [List.length_cons, List.length_map, hl xs ds d ys hR])) (good_end he fun v G' H' σ' s' g r => ?_)
    cases vs with
    | nil =>
      have := st1.len
      simp at this
    | cons v0 vs =>
      obtain ⟨o0, ho0, p0, ws0, e0, g0, f0, h0, r0, a0⟩ := st1.sl 0 _ rfl
      cases ho0
      cases e0
      obtain rfl := a0 p rfl
      obtain ⟨o1, ho1, p1, ws1, e1, g1, f1, h1, r1, a1⟩ := s'.sl 0 _ rfl
      subst e1
      obtain rfl := a1 _ rfl
      have rs : Reps K G vs ds := data_of (vs := vs) (ds := ds) (K := K) (F := F1) (G := G) (H := H) (by have := st1.len; simpa using this) fun i t e => st1.sl (i + 1) t e
      exact q v G' H' (own_data s'.f s'.g s'.dj g1 f1 h1 r1 (rs.mono g)) g r
end
section
variable {K : PySem.W.Frag} {es es1 es2 es' fs : List Sl} {te ta tb : TE} {t : TA} {a b c d : Dt} {ds xs ys : List Dt} {tt : TT}
/-- the heap of others behind a call that may write at p alone -/
def remP (G H : Hp) (p : Addr) : Hp := fun x => if x = p then none else DL.rem G H x
theorem remP_some {G H : Hp} {p x : Addr} {o : HO} (h : remP G H p x = some o) : x ≠ p ∧ H x = some o ∧ G x = none := by
  unfold remP at h
  by_cases q : x = p
  · rw [if_pos q] at h; cases h
  · rw [if_neg q] at h
    exact ⟨q, rem_some h⟩
theorem remP_of {G H : Hp} {p x : Addr} (h : x ≠ p) (g : G x = none) : remP G H p x = H x := by
  unfold remP
  rw [if_neg h, rem_of g]
theorem Stt.wrote {F G H G' H' : Hp} {σ : L2.St} {i : Nat} {a : Option Addr} {p : Addr} {ws : List V} (s : Stt K F G H σ es) (hi : es[i]? = some (.own a xs)) (hp : σ[i]? = some (some (.ref p))) (f : Same (remP G H p) H') (g : Same G' H') (dj : ∀ x o, remP G H p x = some o → G' x = none) (gg : Same G G')
    (gp : G' p = none) (h' : H' p = some (.lst ws)) (r : Reps K G' ws ys) : Stt K F G' H' σ (es.set i (.own a ys)) := by
  have hlt := (List.getElem?_eq_some_iff.mp hi).1
  obtain ⟨o0, ho0, p0, ws0, e0, g0, f0, h0, r0, a0⟩ := s.sl i _ hi
  rw [hp] at ho0
  subst e0
  cases ho0
  have up : ∀ x o, F x = some o → remP G H p x = some o := fun x o e => by
    have ne : x ≠ p := by rintro rfl; rw [f0] at e; cases e
    rw [remP_of ne (s.dj x o e)]
    exact s.f x o e
  refine ⟨fun x o e => f x o (up x o e), g, fun x o e => dj x o (up x o e), by rw [List.length_set]; exact s.len, fun j t e => ?_, sp_setK s.sp hi fun _ _ h => h⟩
  · by_cases q : i = j
    · subst q
      rw [List.getElem?_set_self hlt] at e
      cases e
      exact ⟨_, hp, p, ws, rfl, gp, f0, h', r, a0⟩
    · rw [List.getElem?_set_ne q] at e
      obtain ⟨o, ho, k⟩ := s.sl j t e
      refine ⟨o, ho, k.tr gg fun a m g1 f1 => ?_⟩
      have ne := s.apart q hi rfl hp e ho a m
      obtain ⟨_, _, u, hu⟩ := k.at m
      have mm := remP_of (G := G) (H := H) ne g1
      rw [hu] at mm
      exact ⟨dj _ _ mm, f1, fun w hw => by rw [hu] at hw; cases hw; exact f _ _ mm⟩
/-- f(own list, ..) -/
theorem evm_callM {P : List Dt → List Dt → Dt → List Dt → Prop} {E : XK} {i : Nat} {a a0 : Option Addr} {xs0 : List Dt} (hi0 : es[i]? = some (.own a0 xs0)) (ha : EvMA K t es es1 ds) (hi : es1[i]? = some (.own a xs)) (hP : P xs ds d ys) (he : es1.set i (.own a ys) = es') :
    EvM K (tCall (FSpec K (RMu P)) [] E (tCons (tVar i) t)) es es' d := fun F G H σ s Q q => by
  subst he
  obtain ⟨o0, ho0, p0, _, e0, _⟩ := s.sl i _ hi0
  subst e0
  refine ⟨_, ho0, ha F G H σ s _ fun vs G1 H1 s1 g1 r1 => ?_⟩
  obtain ⟨o1, ho1, p, ws, e1, gp, fp, hp, rr, an⟩ := s1.sl i _ hi
  subst e1
  rw [ho0] at ho1
  obtain rfl : p0 = p := by cases ho1; rfl
  show FSpec K (RMu P) (.ref p0 :: vs ++ []) H1 Q E
  rw [List.append_nil]
  have pp : remP G1 H1 p0 p0 = none := by
    unfold remP
    rw [if_pos rfl]
  refine ⟨remP G1 H1 p0, G1, .own (some p0) xs :: ds.map .d, d, .own (some p0) ys :: ds.map .d, own_data (fun x o e => (remP_some e).2.1) s1.g (fun x o e => (remP_some e).2.2) gp pp hp rr r1, ⟨p0, xs, ds, ys, rfl, rfl, hP⟩, fun v G2 H2 s2 g2 r2 => ?_⟩
  obtain ⟨o2, ho2, p2, ws2, e2, gp2, fp2, hp2, rr2, an2⟩ := s2.sl 0 _ rfl
  cases ho2
  cases e2
  exact q v G2 H2 (s1.wrote hi ho0 s2.f s2.g s2.dj g2 gp2 hp2 rr2) (g1.trans g2) r2
/-- f(a new list, ..) -/
theorem ev_callMF {P : List Dt → List Dt → Dt → List Dt → Prop} {E : XK} (h0 : EvL K te es xs) (ha : EvA K t es ds) (hP : P xs ds d ys) : Ev K (tCall (FSpec K (RMu P)) [] E (tCons te t)) es d := fun F G H σ s Q q =>
  h0 F G H σ s _ fun p ws G0 H0 s0 fp g0 r0 => ha _ G0 H0 σ s0 _ fun vs G1 H1 s1 g1 r1 => by
    have gp : G1 p = none := s1.dj p _ upd_same
    have hp : H1 p = some (.lst ws) := s1.f p _ upd_same
    show FSpec K (RMu P) (.ref p :: vs ++ []) H1 Q E
    rw [List.append_nil]
    have pp : remP G1 H1 p p = none := by
      unfold remP
      rw [if_pos rfl]
    refine ⟨remP G1 H1 p, G1, .own (some p) xs :: ds.map .d, d, .own (some p) ys :: ds.map .d, own_data (fun x o e => (remP_some e).2.1) s1.g (fun x o e => (remP_some e).2.2) gp pp hp (r0.mono g1) r1, ⟨p, xs, ds, ys, rfl, rfl, hP⟩, fun v G2 H2 s2 g2 r2 => ?_⟩
    have up : ∀ x o, F x = some o → remP G1 H1 p x = some o := fun x o e => by
      have ne : x ≠ p := by rintro rfl; rw [fp] at e; cases e
      have e1 : upd F p (.lst ws) x = some o := by rw [upd_ne ne]; exact e
      rw [remP_of ne (s1.dj x o e1)]
      exact s1.f x o e1
    refine q v G2 H2 ⟨fun x o e => s2.f x o (up x o e), s2.g, fun x o e => s2.dj x o (up x o e), s1.len, fun j t e => ?_, s1.sp⟩ (g0.trans (g1.trans g2)) r2
    obtain ⟨o, ho, k⟩ := s1.sl j t e
    refine ⟨o, ho, k.tr g2 fun a m g3 f3 => ?_⟩
    have ne : a ≠ p := by rintro rfl; rw [upd_same] at f3; cases f3
    obtain ⟨_, _, u, hu⟩ := k.at m
    have mm := remP_of (G := G1) (H := H1) ne g3
    rw [hu] at mm
    exact ⟨s2.dj _ _ mm, (upd_none f3).2, fun w hw => by rw [hu] at hw; cases hw; exact s2.f _ _ mm⟩
/-! ### statements -/
variable {ρ : Type} {u tz : TS} {m p q : Option ρ} {oc : ρ → Res} {ts : TS}
theorem sm_setM {i : Nat} (h : EvM K te es es1 d) (he : es1.set i (.d d) = es') (k : SM K tz es' m oc) : SM K (tSeq (tAsg te (gName i)) tz) es m oc := fun r e F G H σ D s q =>
  h F G H σ s _ fun v G1 H1 s1 g1 r1 => k r e F G1 H1 _ D (he ▸ s1.set r1) (q.up g1)
theorem sm_dropM (h : EvM K te es es1 d) (k : SM K tz es1 m oc) : SM K (tSeq (tDrop te) tz) es m oc := fun r e F G H σ D s q =>
  h F G H σ s _ fun v G1 H1 s1 g1 r1 => k r e F G1 H1 _ D s1 (q.up g1)
theorem sev_rtM (h : EvM K te es es1 d) (w : Wk es1 fs) : SEv K (tSeq (tRet te) tz) es (.rt d fs) := fun F G H σ D s q => h F G H σ s _ fun v G1 H1 s1 g1 r1 => q v G1 H1 σ (s1.wk w) g1 r1
theorem etm_test {b : Bool} (h : EvM K te es es' (.bl b)) : EvMT K (tTest te) es es' b := fun F G H σ s Q q => h F G H σ s _ fun v G1 H1 s1 g1 r1 => by
  cases r1
  exact ⟨b, rfl, q G1 H1 s1 g1⟩
theorem etm_B {b : Bool} (h : EvM K te es es' (.bl b)) : EvMT K (tB te) es es' b := fun F G H σ s Q q => h F G H σ s _ fun v G1 H1 s1 g1 r1 => by
  cases r1
  exact ⟨b, rfl, q G1 H1 s1 g1⟩
theorem etm_not {b : Bool} (h : EvMT K tt es es' b) : EvMT K (tNot tt) es es' (!b) := fun F G H σ s Q q => h F G H σ s _ fun G1 H1 s1 g1 => q G1 H1 s1 g1
theorem sm_ifM {b : Bool} (h : EvMT K tt es es1 b) (h1 : b = true → SM K (tSeq ts tz) es1 p oc) (h2 : b = false → SM K (tSeq u tz) es1 q oc) : SM K (tSeq (tIfS tt ts u) tz) es (if b = true then p else q) oc := fun r e F G H σ D s k =>
  h F G H σ s _ fun G1 H1 s1 g1 => by
    cases b with
    | true =>
      show ts _ σ H1
      exact h1 rfl r e F G1 H1 σ D s1 (k.up g1)
    | false =>
      show u _ σ H1
      exact h2 rfl r e F G1 H1 σ D s1 (k.up g1)
end
/-! ### texts -/
theorem ite_some' {α : Type} {p : Prop} [Decidable p] {m : Option α} {y : α} (h : (if p then m else none) = some y) : p ∧ m = some y := by
  by_cases q : p
  · rw [if_pos q] at h; exact ⟨q, h⟩
  · rw [if_neg q] at h; cases h
def chS (c : Nat) : Str := ⟨#[c]⟩
def strL (z : Str) : List Str := z.cps.toList.map chS
/-- z[i] -/
def sixC (z : Str) (i : Int) : Option Str := if z.length ≤ 16000000 then (atI z.cps.toList i).map chS else none
def scat (a b : Str) : Option Str := if a.length + b.length ≤ 16000000 then some (a ++ b) else none
def inSb (i j : Str) : Bool := !(Builtin.Str.occurrences j i 0 j.length 1).isEmpty
def inS (i j : Str) : Option Bool := some (inSb i j)
def scut (z : Str) (lo hi : Option Int) : Option Str := if z.length ≤ 16000000 then some (cutS z lo hi) else none
/-- str(i), int(z) -/
def strC (i : Int) : Option Str := if i.natAbs.log2 < 1920 then some (toString i) else none
def intC (z : Str) : Option Int := if z.length ≤ 640 then PySem.intText? z else none
end DL
namespace L2
open PySem PySem.Spec PyProof.Rows
def rInSt : R2 := fun x y H Q => ∃ i j, x = .str i ∧ y = .str j ∧ Q (.bl (!(Builtin.Str.occurrences j i 0 j.length 1).isEmpty)) H
def rNinSt : R2 := fun x y H Q => ∃ i j, x = .str i ∧ y = .str j ∧ Q (.bl (!(!(Builtin.Str.occurrences j i 0 j.length 1).isEmpty))) H
def rStrI : List V → Hp → VK → Prop := fun xs H Q => ∃ i : Int, xs = [.int i] ∧ i.natAbs.log2 < 1920 ∧ Q (.str (toString i)) H
def rIntT : List V → Hp → VK → Prop := fun xs H Q => ∃ a n, xs = [.str a] ∧ PySem.intText? a = some n ∧ a.length ≤ 640 ∧ Q (.int n) H
section
variable {X : Cx}
theorem op_adS : OpR X (binaryOp .Add) rAddS := op_add_str
theorem op_inSt : OpR X (compareOp .In) rInSt := op_in_str
theorem op_notinSt : OpR X (compareOp .NotIn) rNinSt := op_notin_str
theorem cr_strI : CallR X (.type "str") rStrI := call_str_int
theorem cr_intT : CallR X (.type "int") rIntT := call_int_str
end
end L2
namespace DL
open PySem L2 PySem.Spec
section
variable {K : PySem.W.Frag} {es : List Sl} {te ta tb : TE} {i j z : Str} {n : Int} {b : Bool}
theorem ev_scat (ha : Ev K ta es (.str i)) (hb : Ev K tb es (.str j)) (h : scat i j = some z) : Ev K (tOp rAddS ta tb) es (.str z) := ev_op ha hb fun F G H σ es x y s rx ry Q q => by
  obtain ⟨hl, rfl⟩ := ite_some h
  cases rx
  cases ry
  exact ⟨_, _, rfl, rfl, by rw [sizeLine_eq]; exact Nat.le_trans hl (by decide), q _ G H s (Same.refl _) (.str _)⟩
theorem ev_sixS (ha : Ev K ta es (.str i)) (hb : Ev K tb es (.int n)) (h : sixC i n = some z) : Ev K (tOp rIxS ta tb) es (.str z) := ev_op ha hb fun F G H σ es x y s rx ry Q q => by
  obtain ⟨hl, e⟩ := ite_some' h
  cases rx
  cases ry
  cases hc : atI i.cps.toList n with
  | none => rw [hc] at e; cases e
  | some c =>
    rw [hc] at e
    cases e
    exact ⟨i, n, c, rfl, rfl, by rw [sizeLine_eq]; exact Nat.le_trans hl (by decide), hc, q _ G H s (Same.refl _) (.str _)⟩
theorem ev_inS (ha : Ev K ta es (.str i)) (hb : Ev K tb es (.str j)) (h : inS i j = some b) : Ev K (tOp rInSt ta tb) es (.bl b) := ev_op ha hb fun F G H σ es x y s rx ry Q q => by
  cases h
  cases rx
  cases ry
  exact ⟨_, _, rfl, rfl, q _ G H s (Same.refl _) (.bl _)⟩
theorem ev_ninS (ha : Ev K ta es (.str i)) (hb : Ev K tb es (.str j)) (h : inS i j = some b) : Ev K (tOp rNinSt ta tb) es (.bl (!b)) := ev_op ha hb fun F G H σ es x y s rx ry Q q => by
  cases h
  cases rx
  cases ry
  exact ⟨_, _, rfl, rfl, q _ G H s (Same.refl _) (.bl _)⟩
theorem ev_strI {t : TA} (h : EvA K t es [.int n]) (e : strC n = some z) : Ev K (tCB rStrI t) es (.str z) := ev_cb h fun F G H σ es xs s rx Q q => by
  obtain ⟨hl, rfl⟩ := ite_some e
  cases rx with
  | cons rx rr =>
    cases rr
    cases rx
    exact ⟨n, rfl, hl, q _ G H s (Same.refl _) (.str _)⟩
theorem ev_intT {t : TA} (h : EvA K t es [.str i]) (e : intC i = some n) : Ev K (tCB rIntT t) es (.int n) := ev_cb h fun F G H σ es xs s rx Q q => by
  obtain ⟨hl, e⟩ := ite_some' e
  cases rx with
  | cons rx rr =>
    cases rr
    cases rx
    exact ⟨i, n, rfl, e, hl, q _ G H s (Same.refl _) (.int _)⟩
theorem ei_str (h : Ev K te es (.str z)) : EvI K (iStr te) es ((strL z).map Dt.str) := fun F G H σ s R q => h F G H σ s _ fun v G1 H1 s1 g1 r1 => by
  cases r1
  refine ⟨z, rfl, q _ G1 H1 s1 g1 fun i F2 G2 H2 σ2 es2 g2 s2 => ⟨fun d e => ?_, fun e => ?_⟩⟩
  · unfold strL at e
    rw [List.map_map, List.getElem?_map] at e
    cases hc : z.cps.toList[i]? with
    | none => rw [hc] at e; cases e
    | some c =>
      rw [hc] at e
      cases e
      have hi := (List.getElem?_eq_some_iff.mp hc).1
      refine ⟨by show i < z.cps.size; simpa using hi, fun x H3 y => ?_⟩
      obtain ⟨e1, c', hc', ex⟩ := y
      subst e1 ex
      have : z.cps[i]? = some c := by simpa using hc
      rw [this] at hc'
      cases hc'
      exact ⟨G2, s2, Same.refl _, .str _⟩
  · show z.cps.size ≤ i
    have e : ((strL z).map Dt.str).length ≤ i := e
    unfold strL at e
    simpa using e
end
end DL
namespace DL
open PySem L2 PySem.Spec
theorem ev_scut {K : PySem.W.Frag} {es : List Sl} {te : TE} {tl th : TO} {lo hi : Option Int} {z y : Str} (ha : Ev K te es (.str z)) (hl : EvO K tl es lo) (hh : EvO K th es hi) (h : scut z lo hi = some y) : Ev K (tSl rSlS te tl th) es (.str y) := fun F G H σ s Q q =>
  ha F G H σ s _ fun x G1 H1 s1 g1 r1 => hl F G1 H1 σ s1 _ fun G2 H2 s2 g2 => hh F G2 H2 σ s2 _ fun G3 H3 s3 g3 => by
    obtain ⟨hz, rfl⟩ := ite_some h
    cases r1
    exact ⟨z, rfl, by rw [sizeLine_eq]; exact Nat.le_trans hz (by decide), q _ G3 H3 s3 (g1.trans (g2.trans g3)) (.str _)⟩
end DL

/-! Dl22: C(.., k = v, ..) that may raise; own lists of mixed items -/
namespace L2
open PySem PySem.Spec PyProof.Rows
/-- C(.., k = v, ..), an exception told by the slots -/
def tMakeKS (C : Addr) (n m : Nat) (sp : Sp) (gV : List V → List V → List V) (E : St → XK) (t tk : TA) : TE := fun σ H Q => t σ H fun vs H1 => tk σ H1 fun zs H2 => vs.length = n ∧ zs.length = m ∧ ∀ x dx, H2 x = none → H2 dx = none → dx ≠ x →
  sp (gV (.ref x :: vs) zs) (upd (upd H2 dx (.own x)) x (.ins C dx [])) (fun v H3 => v = .non ∧ Q (.ref x) H3) (E σ)
section
variable {X : Cx} {CX : CXT} {k n : Nat} {f C : Addr} {fd : FuncData} {ps ks : List Str} {sp : Sp} {E : St → XK} {x : Str} {p pos : Pos} {e : Expr} {es : List Expr} {kws : List Keyword} {t tk : TA} {g : List Value → List Value → List Value} {gV : List V → List V → List V}
theorem run_makeKS {pins : List (Addr × Obj)} {σ : St} {H : Hp} {s : Shared} {Q : VK} {us ws : List Value} {vs zs : List V} (M : Mk X.K C f) (F : FnOk X.prog X.w X.K X.mg X.base CX k f fd ps sp) (hr : Room (k + 1) X.A) (hb : KBn X.K fd ps (n + 1) ks g gV) (hx : PassesAt CX X σ (E σ))
    (I : Inv X pins σ H s) (r : Vals vs us) (rz : Vals zs ws) (l1 : vs.length = n) (l2 : zs.length = ks.length)
    (h : ∀ x dx, H x = none → H dx = none → dx ≠ x → sp (gV (.ref x :: vs) zs) (upd (upd H dx (.own x)) x (.ins C dx [])) (fun v H2 => v = .non ∧ Q (.ref x) H2) (E σ)) : wpAny (model X.prog X.w) X.A (call (.ref C) us (ks.zip ws)) (EP X pins σ Q) X.xe s := by
  have hq := h (s.heap.objs.size + 1) s.heap.objs.size (I.hok.fresh (Nat.le_succ _)) (I.hok.fresh (Nat.le_refl _)) (Nat.ne_of_lt (Nat.lt_succ_self _))
  have I2 := Inv.made (C := C) I
  have q1 : Vals (V.ref (s.heap.objs.size + 1) :: vs) (Value.ref (s.heap.objs.size + 1) :: us) := .cons rfl r
  have n1 : (Value.ref (s.heap.objs.size + 1) :: us).length = n + 1 := by rw [List.length_cons, ← r.length, l1]
  have bd := hb.to _ (Value.ref (s.heap.objs.size + 1) :: us) ws I2.kIn n1 (rz.length.symm.trans l2)
  have body := F.run _ X.stack _ _ ⟨Value.ref (s.heap.objs.size + 1) :: us, ks.zip ws⟩ (g (Value.ref (s.heap.objs.size + 1) :: us) ws) _ _ (E σ) (hr.make C us (ks.zip ws)) (I2.env0.make C us (ks.zip ws)) bd (hb.rel q1 rz) hq
  refine wpAny_call (make_map (f := f) I.kIn M.makes M.init (beq_iff_eq.mp M.fn) (codeAny_mono body fun r s' hq' => ?_))
  match r, hq' with
  | .error e, hq' => exact hx pins _ _ e s' I2 hq'
  | .ok (.ret u), hq' =>
    obtain ⟨v, H', I3, rv, ev, q3⟩ := I2.after hq'
    subst ev
    exact ⟨rv, ⟨V.ref (s.heap.objs.size + 1), H', I3, rfl, q3⟩⟩
  | .ok .next, hq' => exact False.elim hq'
  | .ok .brk, hq' => exact False.elim hq'
  | .ok .cont, hq' => exact False.elim hq'
theorem pe_makeKS (M : Mk X.K C f) (F : FnOk X.prog X.w X.K X.mg X.base CX k f fd ps sp) (hr : Room (k + 1) X.A) (hg : Gl X x) (hm : X.mg x = some (.ref C)) (hb : KBn X.K fd ps (n + 1) ks g gV) (hx : ∀ σ, PassesAt CX X σ (E σ)) (ha : PA X (e :: es) t) (hkw : PK X kws tk)
    (hall : (backToKw pos (keywordEach kws X.env)).all (·.1.isSome) = true := by rfl) (hks : (backToKw pos (keywordEach kws X.env)).filterMap (·.1) = ks := by rfl) (hdb : (x == ("__debug__" : Str)) = false := by decide)
    (he : starEach (e :: es) X.env = (false, eval e X.env) :: starEach es X.env := by rfl) (hpl : ((backTo pos (starEach (e :: es) X.env)).any (·.1) || (backToKw pos (keywordEach kws X.env)).any (·.1.isNone)) = false := by rfl) :
    PE X (.Call (.Name x p) (e :: es) kws pos) (tMakeKS C n ks.length sp gV E t tk) := by
  refine ⟨fun pins s σ H Q I h => ?_⟩
  refine wpAny_Call_Name_kw (ld_glob I hg hm ?_ hdb)
  refine PySem.W.callWith_KW (h₀ := X.base) I.ok.mod.kin M.kp hall (thn (ha.run pos pins s σ H _ I h) fun us s1 ⟨vs, H1, I1, r, q⟩ => ?_) hpl he
  refine thn (hkw.run pos pins s1 σ H1 _ I1 q) fun ws s2 ⟨zs, H2, I2, rz, l1, l2, q2⟩ => ⟨I2.kIn, ?_⟩
  rw [hks]
  exact run_makeKS M F hr hb (hx σ) I2 r rz l1 l2 q2
end
end L2
namespace DL
open PySem L2
section
variable {K : PySem.W.Frag} {es es' : List Sl} {ta tk tb te : TE} {t tq : TA} {c : Addr} {f : Str} {d : Dt}
theorem makeKS_eq {C : Addr} {n m : Nat} {sp : Sp} {fV gV : List V → List V → List V} {E : L2.St → XK} (hg : ∀ x vs zs, vs.length = n → zs.length = m → gV (.ref x :: vs) zs = .ref x :: fV vs zs) : tMakeS C sp E (tPermA n m fV t tq) = tMakeKS C n m sp gV E t tq := by
  funext σ H Q
  unfold tMakeS tMakeKS tPermA
  refine congrArg (t σ H) (funext fun vs => funext fun H1 => congrArg (tq σ H1) (funext fun zs => funext fun H2 => propext ?_))
  constructor
  · rintro ⟨a, b, k⟩
    refine ⟨a, b, fun x dx h1 h2 h3 => ?_⟩
    have := k x dx h1 h2 h3
    rw [hg x vs zs a b]
    exact this
  · rintro ⟨a, b, k⟩
    refine ⟨a, b, fun x dx h1 h2 h3 => ?_⟩
    have := k x dx h1 h2 h3
    rw [hg x vs zs a b] at this
    exact this
theorem ev_makeKX {P : List Dt → List (Str × Dt) → Prop} {sp2 : Sp} {C : Addr} {fs : List (Str × Dt)} {n m : Nat} {fV gV : List V → List V → List V} {ds ks ds' : List Dt} {E : L2.St → XK} (ha : EvA K t es ds) (hk : EvA K tq es ks) (hn : ds.length = n) (hm : ks.length = m)
    (hg : ∀ x vs zs, vs.length = n → zs.length = m → gV (.ref x :: vs) zs = .ref x :: fV vs zs) (hf : ∀ G vs zs, Reps K G vs ds → Reps K G zs ks → Reps K G (fV vs zs) ds') (hP : P ds' fs) : Ev K (tMakeKS C n m (spOr (FSpec K (RI C P)) sp2) gV E t tq) es (.obj C fs) := by
  rw [← makeKS_eq hg]
  exact ev_makeX (ea_perm ha hk hn hm hf) hP
theorem xv_makeK {R : List Dt → Addr → Str → Prop} {a : Sp} {C : Addr} {n m : Nat} {fV gV : List V → List V → List V} {ds ks ds' : List Dt} (ha : EvA K t es ds) (hk : EvA K tq es ks) (hn : ds.length = n) (hm : ks.length = m)
    (hg : ∀ x vs zs, vs.length = n → zs.length = m → gV (.ref x :: vs) zs = .ref x :: fV vs zs) (hf : ∀ G vs zs, Reps K G vs ds → Reps K G zs ks → Reps K G (fV vs zs) ds') (hP : R ds' c f) : XvE K (fun E => tMakeKS C n m (spOr a (FSpecX K (XI C R))) gV E t tq) es c f := by
  have h := xv_make (a := a) (C := C) (ea_perm ha hk hn hm hf) hP
  have e : (fun E => tMakeS C (spOr a (FSpecX K (XI C R))) E (tPermA n m fV t tq)) = fun E => tMakeKS C n m (spOr a (FSpecX K (XI C R))) gV E t tq := funext fun E => makeKS_eq hg
  rw [e] at h
  exact h
/-! ### own lists of mixed items -/
variable {ρ : Type} {tz : TS} {m : Option ρ} {oc : ρ → Res}
theorem reps_set {G : Hp} {v : V} {d : Dt} (r : Rep K G v d) : ∀ {vs : List V} {ds : List Dt} (j : Nat), Reps K G vs ds → Reps K G (vs.set j v) (ds.set j d)
  | _, _, _, .nil => .nil
  | _, _, 0, .cons a b => .cons r b
  | _, _, j + 1, .cons a b => .cons a (reps_set r j b)
theorem sm_setD {ds ds' : List Dt} {i : Nat} {n : Int} {a : Option Addr} (hi : es[i]? = some (.own a ds)) (h : Ev K te es d) (hn : Ev K tb es (.int n)) (hy : ∃ j, ixN ds.length n = some j ∧ ds' = ds.set j d) (he : es.set i (.own a ds') = es') (k : SM K tz es' m oc) :
    SM K (tSeq (tAsg te (gSub (tVar i) tb rSetL)) tz) es m oc := fun r e F G H σ D s q => by
  obtain ⟨j, hj, rfl⟩ := hy
  refine h F G H σ s _ fun v G1 H1 s1 g1 r1 => ?_
  obtain ⟨o, ho, p, vs, eo, g, f, hp, rr, an⟩ := s1.sl i _ hi
  subst eo
  refine ⟨.ref p, ho, ?_⟩
  refine hn F G1 H1 σ s1 _ fun y G2 H2 s2 g2 r2 => ?_
  cases r2
  obtain ⟨o, ho', p', vs', eo, g', f', hp', rr', an'⟩ := s2.sl i _ hi
  subst eo
  rw [ho] at ho'
  cases ho'
  have hlen := rr'.length
  refine ⟨p, vs', n, j, rfl, rfl, hp', by rw [hlen]; exact hj, ?_⟩
  exact k r e F G2 _ σ D (he ▸ s2.write hi rfl rfl ho ⟨p, vs'.set j v, rfl, g', f', upd_same, reps_set (r1.mono g2) j rr', an'⟩ g' f') (q.up (g1.trans g2))
/-- one of several places -/
def pickI {α : Type} (n : Int) : List (Int × α) → Option α
  | [] => none
  | (i, x) :: r => if n = i then some x else pickI n r
def PickOk {α : Type} (ds : List Dt) (d : Dt) (em : α → List Dt) : List (Int × α) → Prop
  | [] => True
  | (i, x) :: r => (∃ j, ixN ds.length i = some j ∧ em x = ds.set j d) ∧ PickOk ds d em r
theorem pick_ok {α : Type} {ds : List Dt} {d : Dt} {em : α → List Dt} {n : Int} {y : α} : ∀ {l : List (Int × α)}, pickI n l = some y → PickOk ds d em l → ∃ j, ixN ds.length n = some j ∧ em y = ds.set j d
  | [], h, _ => by cases h
  | (i, x) :: r, h, k => by
    unfold pickI at h
    by_cases q : n = i
    · rw [if_pos q] at h
      cases h
      rw [q]
      exact k.1
    · rw [if_neg q] at h
      exact pick_ok h k.2
end
abbrev dF10 {a b c d e f g h i j : Type} (e1 : a → Dt) (e2 : b → Dt) (e3 : c → Dt) (e4 : d → Dt) (e5 : e → Dt) (e6 : f → Dt) (e7 : g → Dt) (e8 : h → Dt) (e9 : i → Dt) (e10 : j → Dt) (x : a × b × c × d × e × f × g × h × i × j) : Dt :=
  .lst [e1 x.1, e2 x.2.1, e3 x.2.2.1, e4 x.2.2.2.1, e5 x.2.2.2.2.1, e6 x.2.2.2.2.2.1, e7 x.2.2.2.2.2.2.1, e8 x.2.2.2.2.2.2.2.1, e9 x.2.2.2.2.2.2.2.2.1, e10 x.2.2.2.2.2.2.2.2.2]
end DL
namespace DL
open PySem L2
/-- isinstance of an own object against a built-in class -/
theorem ev_isiB {K : PySem.W.Frag} {es : List Sl} {ta : TE} {C : Addr} {fs : List (Str × Dt)} {n : String} {b : Bool} (cl : Cls K C) (h1 : PySem.W.findIn K (.ref C) "__class__" = some (some (.builtin "object.__class__"))) (h2 : PySem.W.specialIn K (.builtin "object.__class__") "__get__" = some (some (.builtin "getset_descriptor.__get__")))
    (h3 : PySem.W.takesIn K (.builtin "object.__class__") = some true) (h4 : PySem.W.mroIn K C (.type "object") = some true) (k : PySem.W.kitOne K (.ref C) (.type n) = some b) (ha : Ev K ta es (.obj C fs)) : Ev K (tCB (rIsi K) (tCons ta (tCons (tC (.ty n)) tNil))) es (.bl b) := fun F G H σ s Q q =>
  ha F G H σ s _ fun x G1 H1 s1 g1 r1 => by
    cases r1 with
    | obj h r => exact ⟨_, _, _, _, b, rfl, .ty n, .base (.ins (s1.g _ _ h) cl h1 h2 h3 h4), k, q _ G1 H1 s1 g1 (.bl _)⟩
end DL

/-! Dl23: own lists lent to a call whose result holds no list; tries that set variables -/
namespace DL
open PySem L2
theorem cr_tupSK {X : Cx} {K : PySem.W.Frag} (h : X.K = K) : CallR X (.type "tuple") (rTupS K) := h ▸ cr_tupS
end DL
namespace DL
open PySem L2
abbrev dF9 {a b c d e f g h i : Type} (e1 : a → Dt) (e2 : b → Dt) (e3 : c → Dt) (e4 : d → Dt) (e5 : e → Dt) (e6 : f → Dt) (e7 : g → Dt) (e8 : h → Dt) (e9 : i → Dt) (x : a × b × c × d × e × f × g × h × i) : Dt :=
  .lst [e1 x.1, e2 x.2.1, e3 x.2.2.1, e4 x.2.2.2.1, e5 x.2.2.2.2.1, e6 x.2.2.2.2.2.1, e7 x.2.2.2.2.2.2.1, e8 x.2.2.2.2.2.2.2.1, e9 x.2.2.2.2.2.2.2.2]
/-! ### data without lists -/
mutual
inductive LF : Dt → Prop
  | non : LF .non
  | bl (b : Bool) : LF (.bl b)
  | int (i : Int) : LF (.int i)
  | str (s : Str) : LF (.str s)
  | ty (n : String) : LF (.ty n)
  | tup {ds : List Dt} : LFs ds → LF (.tup ds)
  | obj {C : Addr} {fs : List (Str × Dt)} : LFf fs → LF (.obj C fs)
inductive LFs : List Dt → Prop
  | nil : LFs []
  | cons {d : Dt} {ds : List Dt} : LF d → LFs ds → LFs (d :: ds)
inductive LFf : List (Str × Dt) → Prop
  | nil : LFf []
  | cons {f : Str} {d : Dt} {ds : List (Str × Dt)} : LF d → LFf ds → LFf ((f, d) :: ds)
end
theorem LFs.map {α : Type} {em : α → Dt} (h : ∀ x, LF (em x)) : ∀ xs : List α, LFs (xs.map em)
  | [] => .nil
  | x :: xs => .cons (h x) (LFs.map h xs)
theorem lf_sum {α β : Type} {e1 : α → Dt} {e2 : β → Dt} (h1 : ∀ x, LF (e1 x)) (h2 : ∀ x, LF (e2 x)) : ∀ x, LF (dS e1 e2 x)
  | .inl a => h1 a
  | .inr b => h2 b
theorem lf_opt {α : Type} {e : α → Dt} (h : ∀ x, LF (e x)) : ∀ x, LF (dO e x)
  | none => .non
  | some a => h a
/-- G1 without the lists that G has not -/
def noL (G G1 : Hp) : Hp := fun a => match G1 a with
  | some (.lst _) => G a
  | x => x
section
variable {K : PySem.W.Frag} {F G H G1 H1 : Hp} {σ : L2.St} {es es' : List Sl}
theorem noL_of {a : Addr} {o : HO} (h : G1 a = some o) (n : ∀ xs, o ≠ .lst xs) : noL G G1 a = some o := by
  unfold noL
  rw [h]
  cases o with
  | lst xs => exact (n xs rfl).elim
  | _ => rfl
theorem noL_lst {a : Addr} {xs : List V} (h : G1 a = some (.lst xs)) : noL G G1 a = G a := by
  unfold noL
  rw [h]
theorem noL_sub (g : Same G H1) (g1 : Same G1 H1) : Same (noL G G1) H1 := fun a o e => by
  unfold noL at e
  split at e
  · exact g a o e
  · exact g1 a o e
theorem noL_sup (g : Same G G1) : Same G (noL G G1) := fun a o e => by
  unfold noL
  have := g a o e
  rw [this]
  cases o with
  | lst xs => exact e
  | _ => rfl
theorem sqT_noL {a : Addr} {xs : List V} (h : SqT K G1 a xs) : SqT K (noL G G1) a xs := by
  rcases h with (h | ⟨o, h⟩) | h
  · exact .inl (.inl (noL_of h fun _ z => by cases z))
  · exact .inl (.inr ⟨o, noL_of h fun _ z => by cases z⟩)
  · exact .inr h
theorem LF.t {ds : List Dt} (h : LF (.tup ds)) : LFs ds := by cases h with | tup h => exact h
theorem LF.o {C : Addr} {fs : List (Str × Dt)} (h : LF (.obj C fs)) : LFf fs := by cases h with | obj h => exact h
theorem LF.l {ds : List Dt} (h : LF (.lst ds)) : False := by cases h
theorem LFs.h {d : Dt} {ds : List Dt} (h : LFs (d :: ds)) : LF d := by cases h with | cons a b => exact a
theorem LFs.t {d : Dt} {ds : List Dt} (h : LFs (d :: ds)) : LFs ds := by cases h with | cons a b => exact b
theorem LFf.h {f : Str} {d : Dt} {ds : List (Str × Dt)} (h : LFf ((f, d) :: ds)) : LF d := by cases h with | cons a b => exact a
theorem LFf.t {f : Str} {d : Dt} {ds : List (Str × Dt)} (h : LFf ((f, d) :: ds)) : LFf ds := by cases h with | cons a b => exact b
mutual
theorem rep_noL : ∀ {v : V} {d : Dt}, Rep K G1 v d → LF d → Rep K (DL.noL G G1) v d
  | _, _, .non, _ => .non
  | _, _, .bl b, _ => .bl b
  | _, _, .int i, _ => .int i
  | _, _, .str s, _ => .str s
  | _, _, .ty n, _ => .ty n
  | _, _, .tup h r, l => .tup (sqT_noL h) (reps_noL r l.t)
  | _, _, .lst _ _, l => l.l.elim
  | _, _, .obj h r, l => .obj (noL_of h fun _ z => by cases z) (repF_noL r l.o)
theorem reps_noL : ∀ {vs : List V} {ds : List Dt}, Reps K G1 vs ds → LFs ds → Reps K (DL.noL G G1) vs ds
  | _, _, .nil, _ => .nil
  | _, _, .cons h r, l => .cons (rep_noL h l.h) (reps_noL r l.t)
theorem repF_noL : ∀ {vs : List (Str × V)} {ds : List (Str × Dt)}, RepF K G1 vs ds → LFf ds → RepF K (DL.noL G G1) vs ds
  | _, _, .nil, _ => .nil
  | _, _, .cons h r, l => .cons (rep_noL h l.h) (repF_noL r l.t)
end
def Sl.isObo : Sl → Bool
  | .obo _ _ _ => true
  | .prv _ => true
  | _ => false
def noObo : List Sl → Bool
  | [] => true
  | t :: ts => !t.isObo && noObo ts
theorem noObo_get : ∀ {es : List Sl} {i : Nat} {t : Sl}, noObo es = true → es[i]? = some t → t.isObo = false
  | [], _, _, _, e => by simp at e
  | a :: as, 0, t, h, e => by
    simp at e
    subst e
    unfold noObo at h
    rw [Bool.and_eq_true] at h
    simpa using h.1
  | a :: as, i + 1, t, h, e => by
    unfold noObo at h
    rw [Bool.and_eq_true] at h
    exact noObo_get (i := i) h.2 (by simpa using e)
variable {te : TE} {d : Dt}
/-- own lists that a call reads, whose result holds no list -/
theorem ev_lend (b : Brw es es') (no : noObo es = true) (h : Ev K te es' d) (hd : LF d) : Ev K te es d := fun F G H σ s Q q =>
  h F _ H σ (s.borrow b) _ fun v G1 H1 s1 g1 r1 => by
    have sm : Same H H1 := same_all s s1.f s1.g g1
    have gg : Same G G1 := fun a o e => g1 a o (same_remF s a o e)
    refine q v (DL.noL G G1) H1 ⟨s1.f, noL_sub (s.g.trans sm) s1.g, fun a o e => ?_, s.len, fun i t e => ?_, s.sp⟩ (noL_sup gg) (rep_noL r1 hd)
    · have := s1.dj a o e
      unfold DL.noL
      rw [this]
    · obtain ⟨o, ho, k⟩ := s.sl i t e
      refine ⟨o, ho, ?_⟩
      cases t with
      | un => trivial
      | d x =>
        obtain ⟨v, ev, rv⟩ := k
        exact ⟨v, ev, rv.mono (noL_sup gg)⟩
      | own p xs =>
        obtain ⟨p', vs, eo, gp, fp, hp, rr, an⟩ := k
        have : G1 p' = some (.lst vs) := g1 _ _ (by rw [rem_of fp]; exact hp)
        exact ⟨p', vs, eo, by rw [noL_lst this]; exact gp, fp, sm _ _ hp, rr.mono (noL_sup gg), an⟩
      | obo p C fs => have := noObo_get no e; cases this
      | prv x => have := noObo_get no e; cases this
end
/-! ### tries that set variables -/
section
variable {K : PySem.W.Frag} {es : List Sl} {tb : WX → TS} {c C1 : Addr} {i : Nat} {x : Option Str} {S R : Type} {env : S → List Sl} {ed : R → Dt} {ee : R → List Sl} {mF : Option (Fl S R)}
theorem lr_nxS (he2 : ∀ s, (env s)[i]? = some .un) : ∀ (r : Fl S R) fs, loopRes env ed ee r = .nx fs → fs[i]? = some .un := fun r fs h => by
  cases r with
  | nx s => cases h; exact he2 s
  | bk s => cases h; exact he2 s
  | rt r => cases h
theorem lr_noS : ∀ (r : Fl S R), (∃ fs, loopRes env ed ee r = .nx fs) ∨ ∃ d fs, loopRes env ed ee r = .rt d fs := fun r => by
  cases r with
  | nx s => exact .inl ⟨_, rfl⟩
  | bk s => exact .inl ⟨_, rfl⟩
  | rt r => exact .inr ⟨_, _, rfl⟩
theorem sm_tryN1S {ts : Addr → Value → Option Addr → TS} {hm : Str → Option (Fl S R)} (he : PySem.W.exmOne K (.ref c) (.ref C1) = some true) (hu : es[i]? = some .un) (he2 : ∀ s, (env s)[i]? = some .un)
    (hx : ∀ W, SMY K (tb W) (WE W) es es c x) (hn : x = none → ∀ W, SM K (tb W) es mF (loopRes env ed ee)) (hh : ∀ a dd f, SMH K a dd i f (ts a (.ref c) (some dd)) es (hm f) (loopRes env ed ee)) :
    SM K (fun D σ H => tb (wN K D [(.ref C1, i, ts)]) D σ H) es (tryX x hm mF) (loopRes env ed ee) := fun r e F G H σ D s q => by
  cases x with
  | none => exact hn rfl _ r e F G H σ D s q
  | some f =>
    refine hx _ f rfl F G H σ D s fun dd G' H' σ' s1 g1 h1 f1 n1 => ⟨true, he, fun _ a ha => ?_, fun z => by cases z⟩
    exact caught hu hh (lr_nxS he2) lr_noS e s1 g1 h1 f1 n1 q
end
end DL

/-! Dl24: enumerate over texts, enumerate with a start; split, partition, extend -/
namespace L2
open PySem PySem.Spec PyProof.Rows
/-- what a text's iterator draws; beyond the end nothing -/
theorem draws_text {prog : Program} {w : World} {A : Around} (hh : A.handled = none) (it : Addr) (x : Str) (t : Tok) (i : Nat) (hi : x.cps.size ≤ i) : Draws prog w A it [it] 0 (fun _ _ => False) (fun _ h => h.IsStrIter it (strIterType x) x t i) where
  live := fun _ _ st => let ⟨o, ho, _⟩ := st; ⟨o, ho⟩
  frame := fun _ _ _ st hk => let ⟨o, ho, r⟩ := st; ⟨o, hk it (by simp) o ho, r⟩
  item := fun i s Q E hi st hQ => absurd hi (Nat.not_lt_zero _)
  done := fun s Q E st hE => by
    have hx : x.cps[i]? = none := Array.getElem?_eq_none hi
    unfold strIterType at st
    by_cases ha : (x.cps.all (· < 128)) = true
    · rw [if_pos ha] at st
      exact wpAny_nextOf_ascii_end hh st hx hE
    · rw [if_neg ha] at st
      exact wpAny_nextOf_wide_end hh st hx hE
theorem draws_list {prog : Program} {w : World} {A : Around} (hh : A.handled = none) (it l : Addr) (items : Array Value) (i : Nat) (hi : items.size ≤ i) : Draws prog w A it [it, l] 0 (fun _ _ => False) (fun _ h => h.IsListIter it l i ∧ h.IsList l items) where
  live := fun _ _ st => let ⟨o, ho, _⟩ := st.1; ⟨o, ho⟩
  frame := fun _ _ _ st hk => ⟨st.1.at fun o e => hk it (by simp) o e, st.2.at fun o e => hk l (by simp) o e⟩
  item := fun i s Q E hi st hQ => absurd hi (Nat.not_lt_zero _)
  done := fun s Q E st hE => wpAny_nextOf_list_end hh st.1 st.2 (Array.getElem?_eq_none hi) hE
/-- the list at a from the count k0 -/
def IteK (K : PySem.W.Frag) (a : Addr) (k0 : Int) : It :=
  ⟨fun i H => ∃ (xs : List V) (x : V), SqL K H a xs ∧ xs[i]? = some x, fun i H v H' => ∃ T x, v = .ref T ∧ H T = none ∧ H' = upd H T (.tup [.int (k0 + (i : Nat)), x]) ∧ ∀ xs, SqL K H a xs → xs[i]? = some x, fun i H => ∃ xs : List V, SqL K H a xs ∧ xs.length ≤ i⟩
/-- the signs of a text with their places -/
def ItsE (x : Str) : It := ⟨fun i _ => i < x.cps.size, fun i H v H' => ∃ T c, v = .ref T ∧ H T = none ∧ H' = upd H T (.tup [.int (i : Nat), .str ⟨#[c]⟩]) ∧ x.cps[i]? = some c, fun i _ => x.cps.size ≤ i⟩
theorem turn_enumS {P : Program} {w : World} {K : PySem.W.Frag} {elts : List Expr} {kk : Nat} {tpos : Pos} (x : Str) (t : Tok) (e it : Addr) :
    Turn P w K (.Tuple elts kk tpos) (ItsE x) [e, it] e (fun i h => (∃ old, IsEnum h e it ((i : Nat) : Int) old) ∧ h.IsStrIter it (strIterType x) x t i ∧ e ≠ it) where
  mem := by simp
  obj := fun i h st b hb => by
    obtain ⟨⟨old, he⟩, ⟨o, ho, hc, hd⟩, _⟩ := st
    have e' : b = e ∨ b = it := by simpa using hb
    rcases e' with z | z
    · rw [z]; exact ⟨_, he, fun v q => nomatch q⟩
    · rw [z]; exact ⟨o, ho, fun v q => by rw [hd] at q; cases q⟩
  keep := fun i h h' st k => let ⟨⟨old, he⟩, hi, hne⟩ := st; ⟨⟨old, k e (by simp) _ he⟩, (let ⟨o, ho, r⟩ := hi; ⟨o, k it (by simp) o ho, r⟩), hne⟩
  item := by
    intro X hP hw hK hc i pins s σ H E I hf st hg
    subst hP hw hK
    obtain ⟨⟨old, he⟩, hit, hne⟩ := st
    have hel : e < s.heap.objs.size := Heap.lt_size he
    have hil : it < s.heap.objs.size := by obtain ⟨_, q, _⟩ := hit; exact Heap.lt_size q
    refine wpAny_pyNext_enum_itemC (Draws.text (show X.A.in1.handled = none from I.ok.hd hc) it x t) he hit hg hne (by simpa using hne) fun x1 h' tk hP1 ho hit' hT hsz hk => ?_
    obtain ⟨c, u, hcx, rfl⟩ := hP1
    refine ⟨_, rfl, wpAny_letOwnedTupleGo_enum (s := { s with heap := h', toks := tk + 1 }) ho fun h'' he' sb => ?_⟩
    have hT2 : h''.get? s.heap.objs.size = some { cls := .type "tuple", data := .seq #[.int i tk, .str ⟨#[c]⟩ u] } := (sb.2 _ (Nat.ne_of_gt hel)).trans hT
    have new : ObjOk X.prog X.w (upd H s.heap.objs.size (.tup [.int (i : Nat), .str ⟨#[c]⟩])) h'' s.heap.objs.size (.tup [.int (i : Nat), .str ⟨#[c]⟩]) :=
      ⟨by show 2 ≤ sizeLine; decide, [.int i tk, .str ⟨#[c]⟩ u], .cons ⟨_, rfl⟩ (.cons ⟨_, rfl⟩ .nil), ⟨_, hT2, rfl, _, rfl⟩⟩
    have I1 : Inv X pins σ (upd H s.heap.objs.size (.tup [.int (i : Nat), .str ⟨#[c]⟩])) { s with heap := h'', toks := tk + 1 } :=
      I.turnedNew (ch := [e, it]) (fun b ob hb q => (sb.2 b (fun z => hb (by simp [z]))).trans (hk b ob (fun z => hb (by simp [z])) (fun z => hb (by simp [z])) q)) hf (Nat.le_refl _) new
    refine ⟨.ref s.heap.objs.size, _, I1, rfl, ⟨_, c, rfl, I.hok.fresh (Nat.le_refl _), rfl, hcx⟩, ⟨⟨.str ⟨#[c]⟩ u, ?_⟩, (let ⟨o, ho, r⟩ := hit'; ⟨o, (sb.2 it (Ne.symm hne)).trans ho, r⟩), hne⟩, fun b hb => ?_⟩
    · have e1 : ((i + 1 : Nat) : Int) = (i : Int) + 1 := by omega
      rw [e1]; exact he'
    · have hb' : b < s.heap.objs.size := by
        have e' : b = e ∨ b = it := by simpa using hb
        rcases e' with z | z
        · rw [z]; exact hel
        · rw [z]; exact hil
      rw [upd_ne (Nat.ne_of_lt hb')]
      exact (hf b hb).1
  done := by
    intro X hP hw hK hc i pins s σ H E I hf st hg
    subst hP hw hK
    obtain ⟨⟨old, he⟩, hit, hne⟩ := st
    obtain ⟨f0, f1, f2, f3, f4, f5⟩ := hf it (by simp)
    exact wpAny_pyNext_enum_endD (draws_text (show X.A.in1.handled = none from I.ok.hd hc) it x t i hg) he hit fun h' eb => ⟨rfl, I.turned (t' := s.toks) (fun b o hb q => eb b o hb q) f0 f1 f3 f4 f5⟩
  self := fun A i s Q E st h => let ⟨⟨_, he⟩, _⟩ := st; wpAny_pyIter_enum he h
theorem turn_enumK {P : Program} {w : World} {K : PySem.W.Frag} {elts : List Expr} {kk : Nat} {tpos : Pos} (k0 : Int) (a e it : Addr) (hai : a ≠ it) (hae : a ≠ e) :
    Turn P w K (.Tuple elts kk tpos) (IteK K a k0) [e, it] e (fun i h => (∃ old, IsEnum h e it (k0 + ((i : Nat) : Int)) old) ∧ h.IsListIter it a i ∧ e ≠ it) where
  mem := by simp
  obj := fun i h st b hb => by
    obtain ⟨⟨old, he⟩, ⟨o, ho, hc, hd⟩, _⟩ := st
    have e' : b = e ∨ b = it := by simpa using hb
    rcases e' with z | z
    · rw [z]; exact ⟨_, he, fun v q => nomatch q⟩
    · rw [z]; exact ⟨o, ho, fun v q => by rw [hd] at q; cases q⟩
  keep := fun i h h' st k => let ⟨⟨old, he⟩, hi, hne⟩ := st; ⟨⟨old, k e (by simp) _ he⟩, hi.at fun o q => k it (by simp) o q, hne⟩
  item := by
    intro X hP hw hK hc i pins s σ H E I hf st hg
    subst hP hw hK
    obtain ⟨⟨old, he⟩, hit, hne⟩ := st
    obtain ⟨xs, x, hq, hx⟩ := hg
    obtain ⟨its, rv, p, hz⟩ := I.list hq
    obtain ⟨u, hu, ru⟩ := rv.get hx
    have hel : e < s.heap.objs.size := Heap.lt_size he
    have hil : it < s.heap.objs.size := by obtain ⟨_, q, _⟩ := hit; exact Heap.lt_size q
    have hlt : i < its.toArray.size := by simpa using (List.getElem?_eq_some_iff.mp hu).1
    refine wpAny_pyNext_enum_itemC (Draws.list (show X.A.in1.handled = none from I.ok.hd hc) it a hai its.toArray) he ⟨hit, p.isList⟩ hlt hne (by simpa using ⟨hne, hae.symm⟩) fun x1 h' tk hP1 ho hit' hT hsz hk => ?_
    have hu1 : x1 = u := by
      have hP2 : its.toArray[i]? = some x1 := hP1
      have : its[i]? = some x1 := by simpa using hP2
      rw [hu] at this
      cases this
      rfl
    subst hu1
    refine ⟨_, rfl, wpAny_letOwnedTupleGo_enum (s := { s with heap := h', toks := tk + 1 }) ho fun h'' he' sb => ?_⟩
    have hT2 : h''.get? s.heap.objs.size = some { cls := .type "tuple", data := .seq #[.int (k0 + i) tk, x1] } := (sb.2 _ (Nat.ne_of_gt hel)).trans hT
    have new : ObjOk X.prog X.w (upd H s.heap.objs.size (.tup [.int (k0 + (i : Nat)), x])) h'' s.heap.objs.size (.tup [.int (k0 + (i : Nat)), x]) :=
      ⟨by show 2 ≤ sizeLine; decide, [.int (k0 + i) tk, x1], .cons ⟨_, rfl⟩ (.cons ru .nil), ⟨_, hT2, rfl, _, rfl⟩⟩
    have I1 : Inv X pins σ (upd H s.heap.objs.size (.tup [.int (k0 + (i : Nat)), x])) { s with heap := h'', toks := tk + 1 } :=
      I.turnedNew (ch := [e, it]) (fun b ob hb q => (sb.2 b (fun z => hb (by simp [z]))).trans (hk b ob (fun z => hb (by simp [z])) (fun z => hb (by simp [z])) q)) hf (Nat.le_refl _) new
    refine ⟨.ref s.heap.objs.size, _, I1, rfl, ⟨_, x, rfl, I.hok.fresh (Nat.le_refl _), rfl, fun ys hy => by rw [I.list_inj hy hq]; exact hx⟩, ⟨⟨x1, ?_⟩, hit'.1.at fun o q => (sb.2 it (Ne.symm hne)).trans q, hne⟩, fun b hb => ?_⟩
    · have e1 : k0 + ((i + 1 : Nat) : Int) = k0 + (i : Int) + 1 := by omega
      rw [e1]; exact he'
    · have hb' : b < s.heap.objs.size := by
        have e' : b = e ∨ b = it := by simpa using hb
        rcases e' with z | z
        · rw [z]; exact hel
        · rw [z]; exact hil
      rw [upd_ne (Nat.ne_of_lt hb')]
      exact (hf b hb).1
  done := by
    intro X hP hw hK hc i pins s σ H E I hf st hg
    subst hP hw hK
    obtain ⟨⟨old, he⟩, hit, hne⟩ := st
    obtain ⟨xs, hq, hx⟩ := hg
    obtain ⟨its, rv, p, hz⟩ := I.list hq
    obtain ⟨f0, f1, f2, f3, f4, f5⟩ := hf it (by simp)
    have hl := rv.length
    exact wpAny_pyNext_enum_endD (draws_list (show X.A.in1.handled = none from I.ok.hd hc) it a its.toArray i (by rw [List.size_toArray]; omega)) he ⟨hit, p.isList⟩ fun h' eb => ⟨rfl, I.turned (t' := s.toks) (fun b o hb q => eb b o hb q) f0 f1 f3 f4 f5⟩
  self := fun A i s Q E st h => let ⟨⟨_, he⟩, _⟩ := st; wpAny_pyIter_enum he h
section
variable {M : Model} {A : Around} {E : Value → Shared → Prop} {s : Shared} {env : Env}
theorem callWith_typeKw {pos : Pos} {T : String} {e : Expr} {rest : List Expr} {kws : List Keyword} {Q : Value → Shared → Prop}
    (h : wpAny M A (spliced (backTo pos (starEach (e :: rest) env))) (fun vs s₁ => wpAny M A (evalAll ((backToKw pos (keywordEach kws env)).map (·.2)))
      (fun kvs s₂ => wpAny M A (call (.type T) vs (((backToKw pos (keywordEach kws env)).filterMap (·.1)).zip kvs)) Q E s₂) E s₁) E s)
    (he : backTo pos (starEach (e :: rest) env) = (false, eval e env) :: backTo pos (starEach rest env) := by rfl)
    (hplain : (backTo pos (starEach (e :: rest) env)).any (·.1) = false := by rfl)
    (hall : (backToKw pos (keywordEach kws env)).all (·.1.isSome) = true := by rfl)
    (hkw : (backToKw pos (keywordEach kws env)).any (·.1.isNone) = false := by rfl) :
    wpAny M A (callWith pos (.type T) [] (backTo pos (starEach (e :: rest) env)) (backToKw pos (keywordEach kws env))) Q E s := by
  unfold callWith
  have h2 : wpAny M A (evalArgs (.type T) true (backTo pos (starEach (e :: rest) env)) (backToKw pos (keywordEach kws env))) (fun a s₁ => wpAny M A (call (.type T) ([] ++ a.pos) a.kw) Q E s₁) E s := by
    rw [he] at h ⊢
    exact evalArgs_kwB hall h
  refine wpAny_bind (wpAny_holding (wpAny_mono h2 (fun a s₁ h₁ => wpAny_bind (wpAny_standAt ?_)) fun _ _ x => x))
  simp only [hplain, hkw, Bool.or_false]
  refine wpAny_bind (wpAny_pure ?_)
  exact wpAny_bind (wpAny_mono h₁ (fun r s₂ hr => wpAny_bind (wpAny_holding (wpAny_point (wpAny_pure hr)))) fun _ _ x => x)
end
/-- enumerate(a text) -/
def iEnumS (ta : TA) : TI := fun σ H R => ta σ H fun vs H1 => ∃ x, vs = [.str x] ∧ R (ItsE x) H1
/-- enumerate(a list, start=k0) -/
def iEnumK (K : PySem.W.Frag) (k0 : Int) (ta : TA) : TI := fun σ H R => ta σ H fun vs H1 => ∃ a xs, vs = [.ref a] ∧ SqL K H1 a xs ∧ R (IteK K a k0) H1
section
variable {X : Cx} {e : Expr} {ta : TA} {p pos tpos cp kp : Pos} {elts : List Expr} {kk ck : Nat}
theorem pi_enumS (hg : Gl X "enumerate") (hm : X.mg "enumerate" = none) (ha : PA X [e] ta) (hs : starEach [e] X.env = [(false, eval e X.env)] := by rfl) :
    PI X (.Tuple elts kk tpos) (.Call (.Name "enumerate" p) [e] [] pos) (iEnumS ta) := by
  refine ⟨fun pins s σ H R I h => ?_⟩
  refine Call_ (ld_blt I hg hm boot_enumerate (PyProof.Rows.callWith_type1 (thn (ha.run pos pins s σ H _ I h) fun us s1 ⟨vs, H1, I1, r1, q1⟩ => ?_) hs rfl))
  obtain ⟨x, ex, q⟩ := q1
  subst ex
  cases r1 with
  | cons r rr =>
    cases rr
    obtain ⟨t, rfl⟩ := r
    refine call_enumerate_str fun h' he hit hsz hk => wpAny_pyIter_enum he ?_
    have I2 : Inv X pins σ H1 { s1 with heap := h' } := I1.kept (t' := s1.toks) hk
    refine ⟨s1.heap.objs.size + 1, [s1.heap.objs.size + 1, s1.heap.objs.size], _, _, H1, rfl, I2, turn_enumS x t (s1.heap.objs.size + 1) s1.heap.objs.size, ⟨⟨.none, he⟩, hit, Nat.succ_ne_self _⟩, fun b hb => ?_, q⟩
    have e' : b = s1.heap.objs.size + 1 ∨ b = s1.heap.objs.size := by simpa using hb
    have hle : s1.heap.objs.size ≤ b := by
      rcases e' with z | z
      · rw [z]; exact Nat.le_add_right _ _
      · rw [z]; exact Nat.le_refl _
    exact I1.fpOk hle (I1.hok.fresh hle)
theorem pi_enumK {k0 : Int} (h0 : -(2 ^ 63) ≤ k0) (h1 : k0 < 2 ^ 63) (hg : Gl X "enumerate") (hm : X.mg "enumerate" = none) (ha : PA X [e] ta) (he : backTo pos (starEach [e] X.env) = (false, eval e X.env) :: backTo pos (starEach [] X.env) := by rfl) (hpl : (backTo pos (starEach [e] X.env)).any (·.1) = false := by rfl) :
    PI X (.Tuple elts kk tpos) (.Call (.Name "enumerate" p) [e] [⟨some "start", .Constant (.int k0) ck cp, kp⟩] pos) (iEnumK X.K k0 ta) := by
  refine ⟨fun pins s σ H R I h => ?_⟩
  refine wpAny_Call_Name_kw (ld_blt I hg hm boot_enumerate ?_)
  refine callWith_typeKw (thn (ha.run pos pins s σ H _ I h) fun us s1 ⟨vs, H1, I1, r1, q1⟩ => ?_) he hpl
  obtain ⟨a, xs, ex, hq, q⟩ := q1
  subst ex
  cases r1 with
  | cons r rr =>
  cases rr
  cases r
  refine kws_cons (wpAny_Constant_int (kws_nil ?_))
  have I1' : Inv X pins σ H1 { s1 with toks := s1.toks + 1 } := I1.tok _
  obtain ⟨its, rv, p', hz⟩ := I1'.list hq
  refine enum_begins_start (begins_list a its.toArray) p'.isList h0 h1 fun h' he hit hsz hk => wpAny_pyIter_enum he ?_
  have I2 : Inv X pins σ H1 { s1 with heap := h', toks := s1.toks + 1 } := I1.kept (t' := s1.toks + 1) hk
  have hal : a < s1.heap.objs.size := by
    obtain ⟨o, ho, _⟩ := p'.isList
    exact Heap.lt_size ho
  have e0 : k0 + ((0 : Nat) : Int) = k0 := by omega
  refine ⟨s1.heap.objs.size + 1, [s1.heap.objs.size + 1, s1.heap.objs.size], _, _, H1, rfl, I2, turn_enumK k0 a (s1.heap.objs.size + 1) s1.heap.objs.size (Nat.ne_of_lt hal) (Nat.ne_of_lt (Nat.lt_succ_of_lt hal)), ⟨⟨.none, by rw [e0]; exact he⟩, ⟨_, hit, rfl, rfl⟩, Nat.succ_ne_self _⟩, fun b hb => ?_, q⟩
  have e' : b = s1.heap.objs.size + 1 ∨ b = s1.heap.objs.size := by simpa using hb
  have hle : s1.heap.objs.size ≤ b := by
    rcases e' with z | z
    · rw [z]; exact Nat.le_add_right _ _
    · rw [z]; exact Nat.le_refl _
  exact I1'.fpOk hle (I1'.hok.fresh hle)
end
end L2
namespace DL
open PySem L2
/-- the items with their numbers from k on -/
def enumL {α : Type} : List α → Int → List (Int × α)
  | [], _ => []
  | x :: xs, k => (k, x) :: enumL xs (k + 1)
theorem enumL_get {α : Type} : ∀ {xs : List α} {k : Int} {i : Nat}, (enumL xs k)[i]? = xs[i]?.map fun x => (k + (i : Int), x)
  | [], _, _ => by simp [enumL]
  | x :: xs, k, 0 => by simp [enumL]
  | x :: xs, k, i + 1 => by
    show (enumL xs (k + 1))[i]? = xs[i]?.map _
    rw [enumL_get (xs := xs)]
    have e : k + 1 + (i : Int) = k + ((i + 1 : Nat) : Int) := by omega
    rw [e]
theorem enumL_len {α : Type} : ∀ {xs : List α} {k : Int}, (enumL xs k).length = xs.length
  | [], _ => rfl
  | x :: xs, k => congrArg (· + 1) (enumL_len (xs := xs))
def splitC (a b : Str) : Option (List Str) := if (b.length == 0) = false ∧ a.length ≤ 16000000 then some (Txt.split a b) else none
def partC (a b : Str) : Option (Str × Str × Str) := if (b.length == 0) = false ∧ a.length ≤ 16000000 then some (Txt.partition a b) else none
abbrev rSplit : V → List V → Hp → VK → Prop := fun x xs H Q => ∃ a b, x = .str a ∧ xs = [.str b] ∧ (b.length == 0) = false ∧ a.length + 2 ≤ sizeLine ∧ rNewStrs (Txt.split a b) H Q
abbrev rPart : V → List V → Hp → VK → Prop := fun x xs H Q => ∃ a b, x = .str a ∧ xs = [.str b] ∧ (b.length == 0) = false ∧ a.length ≤ sizeLine ∧
  ∀ p, H p = none → Q (.ref p) (upd H p (.tup [.str (Txt.partition a b).1, .str (Txt.partition a b).2.1, .str (Txt.partition a b).2.2]))
section
variable {K : PySem.W.Frag} {es es' : List Sl} {te to : TE} {ta : TA} {z w : Str}
theorem reps_str {G : Hp} : ∀ {ys : List Str}, Reps K G (ys.map V.str) (ys.map Dt.str)
  | [] => .nil
  | y :: ys => .cons (.str y) (reps_str (ys := ys))
theorem el_split {ys : List Str} (ha : Ev K to es (.str z)) (hb : Ev K te es (.str w)) (h : splitC z w = some ys) : EvL K (tM1 rSplit to te) es (ys.map Dt.str) := fun F G H σ s Q q => by
  obtain ⟨⟨h1, h2⟩, rfl⟩ := ite_some h
  refine ha F G H σ s _ fun x G1 H1 s1 g1 r1 => ?_
  cases r1
  refine ⟨⟨_, rfl⟩, hb F G1 H1 σ s1 _ fun y G2 H2 s2 g2 r2 => ?_⟩
  cases r2
  refine ⟨_, _, rfl, rfl, h1, Nat.le_trans (Nat.add_le_add_right h2 2) (by decide), fun p hp => ?_⟩
  exact q p _ G2 _ (s2.prot hp) (s2.fnone hp) (g1.trans g2) reps_str
theorem ev_part {r : Str × Str × Str} (ha : Ev K to es (.str z)) (hb : Ev K te es (.str w)) (h : partC z w = some r) : Ev K (tM1 rPart to te) es (dT3 Dt.str Dt.str Dt.str r) := fun F G H σ s Q q => by
  obtain ⟨⟨h1, h2⟩, rfl⟩ := ite_some h
  refine ha F G H σ s _ fun x G1 H1 s1 g1 r1 => ?_
  cases r1
  refine ⟨⟨_, rfl⟩, hb F G1 H1 σ s1 _ fun y G2 H2 s2 g2 r2 => ?_⟩
  cases r2
  refine ⟨_, _, rfl, rfl, h1, Nat.le_trans h2 (by decide), fun p hp => ?_⟩
  exact q (.ref p) _ _ (s2.new hp) (g1.trans (g2.trans (same_upd (s2.gnone hp)))) (.tup (.inl (.inl upd_same)) (.cons (.str _) (.cons (.str _) (.cons (.str _) .nil))))
theorem ei_enumS (h : EvA K ta es [.str z]) : EvI K (iEnumS ta) es ((enumL (strL z) 0).map (dT2 Dt.int Dt.str)) := fun F G H σ s R q => h F G H σ s _ fun vs G1 H1 s1 g1 r1 => by
  cases r1 with
  | cons r rr =>
  cases rr
  cases r
  refine ⟨z, rfl, q _ G1 H1 s1 g1 fun i F2 G2 H2 σ2 es2 g2 s2 => ⟨fun d e => ?_, fun e => ?_⟩⟩
  · rw [List.getElem?_map, enumL_get] at e
    unfold strL at e
    rw [List.getElem?_map] at e
    cases hc : z.cps.toList[i]? with
    | none => rw [hc] at e; cases e
    | some c =>
      rw [hc] at e
      cases e
      have hi := (List.getElem?_eq_some_iff.mp hc).1
      refine ⟨by show i < z.cps.size; simpa using hi, fun x H3 y => ?_⟩
      obtain ⟨T, c', rfl, hT, rfl, hc'⟩ := y
      have : z.cps[i]? = some c := by simpa using hc
      rw [this] at hc'
      cases hc'
      refine ⟨_, s2.new hT, same_upd (s2.gnone hT), .tup (.inl (.inl upd_same)) (.cons ?_ (.cons (.str _) .nil))⟩
      show Rep K _ _ (.int (0 + (i : Int)))
      rw [Int.zero_add]
      exact .int _
  · show z.cps.size ≤ i
    rw [List.length_map, enumL_len] at e
    unfold strL at e
    simpa using e
theorem ei_enumK {α : Type} {em : α → Dt} {xs : List α} {k0 : Int} (h : EvA K ta es [.lst (xs.map em)]) : EvI K (iEnumK K k0 ta) es ((enumL xs k0).map (dT2 Dt.int em)) := fun F G H σ s R q => h F G H σ s _ fun vs G1 H1 s1 g1 r1 => by
  cases r1 with
  | cons r rr =>
  cases rr
  cases r with
  | lst hs r =>
  refine ⟨_, _, rfl, s1.g.seq hs, q _ G1 H1 s1 g1 fun i F2 G2 H2 σ2 es2 g2 s2 => ⟨fun d e => ?_, fun e => ⟨_, s2.g.seq (g2.seq hs), ?_⟩⟩⟩
  · rw [List.getElem?_map, enumL_get] at e
    cases hc : xs[i]? with
    | none => rw [hc] at e; cases e
    | some x =>
      rw [hc] at e
      cases e
      obtain ⟨v, hv, rv⟩ := r.get (i := i) (d := em x) (by rw [List.getElem?_map, hc]; rfl)
      refine ⟨⟨_, v, s2.g.seq (g2.seq hs), hv⟩, fun y H3 w => ?_⟩
      obtain ⟨T, x', rfl, hT, rfl, hx'⟩ := w
      have := hx' _ (s2.g.seq (g2.seq hs))
      rw [hv] at this
      cases this
      exact ⟨_, s2.new hT, same_upd (s2.gnone hT), .tup (.inl (.inl upd_same)) (.cons (.int _) (.cons ((rv.mono g2).mono (same_upd (s2.gnone hT))) .nil))⟩
  · have := r.length
    rw [List.length_map] at this
    rw [List.length_map, enumL_len] at e
    rw [this]
    exact e
variable {ρ : Type} {tz : TS} {m : Option ρ} {oc : ρ → Res}
/-- own.extend(a new list) -/
theorem sm_ext {α : Type} {em : α → Dt} {xs ys zs : List α} {i : Nat} {a : Option Addr} (hi : es[i]? = some (.own a (xs.map em))) (h : EvL K te es (ys.map em)) (hy : catC xs ys = some zs) (he : es.set i (.own a (zs.map em)) = es') (k : SM K tz es' m oc) :
    SM K (tSeq (tDrop (tBM K "list" rExtend (tVar i) (tCons te tNil))) tz) es m oc := fun r e F G H σ D s q => by
  obtain ⟨hl, rfl⟩ := ite_some hy
  obtain ⟨o, ho, p, vs, eo, g, f, hp, rr, an⟩ := s.sl i _ hi
  subst eo
  refine ⟨.ref p, ho, .inl ⟨rfl, vs, .inl (.inl hp)⟩, ?_⟩
  refine h F G H σ s _ fun p2 vs2 G1 H1 s1 hF g1 r1 => ?_
  obtain ⟨o, ho', p', vs', eo, g', f', hp', rr', an'⟩ := s1.sl i _ hi
  subst eo
  rw [ho] at ho'
  cases ho'
  have hlen := rr'.length
  have hlen2 := r1.length
  rw [List.length_map] at hlen hlen2
  have h2 : H1 p2 = some (.lst vs2) := s1.f p2 _ upd_same
  refine ⟨p, p2, vs', vs2, rfl, rfl, hp', h2, ?_, ?_⟩
  · rw [hlen, hlen2]
    exact Nat.le_trans hl (by decide)
  have w := s1.write (t' := .own a ((xs ++ ys).map em)) hi rfl rfl ho ⟨p, vs' ++ vs2, rfl, g', f', upd_same, by rw [List.map_append]; exact rr'.append r1, an'⟩ g' f'
  exact k r e F G1 _ σ D (he ▸ w.loose hF) (q.up g1)
end
end DL

/-! Dl25: loops over iterables whose making changes the slots -/
namespace DL
open PySem L2
def EvIM (K : PySem.W.Frag) (wi : TI) (es es' : List Sl) (ds : List Dt) : Prop := ∀ F G H σ, Stt K F G H σ es → ∀ R : It → Hp → Prop, (∀ J G' H', Stt K F G' H' σ es' → Same G G' → Yields K J G' ds → R J H') → wi σ H R
section
variable {K : PySem.W.Frag} {es es1 : List Sl} {α S R ρ : Type} {t u tb : TS} {oc : ρ → Res}
theorem eim_rng1 {ta : TA} {hi : Int} {xs : List Int} (h : EvMA K ta es es1 [.int hi]) (e : rngC 0 hi = some xs) : EvIM K (iRng1 ta) es es1 (xs.map Dt.int) := fun F G H σ s R q =>
  h F G H σ s _ fun vs G1 H1 s1 g1 r1 => by
    have p := ei_rng1 (K := K) (es := es1) (ta := fun σ H Q => Q vs H) (fun F' G' H' σ' s' Q q' => q' vs G' H' s' (Same.refl _) (by
      cases r1 with
      | cons r rr =>
        cases rr
        cases r
        exact .cons (.int _) .nil)) e
    exact p F G1 H1 σ s1 R fun J G2 H2 s2 g2 y => q J G2 H2 s2 (g1.trans g2) y
theorem sm_forM {xs : List α} {em : α → Dt} {wi : TI} {g : TG} {vs : List Nat} {env : S → List Sl} {en2 : α → S → List Sl} {ed : R → Dt} {ee : R → List Sl} {s0 : S} {f : α → S → Option (Fl S R)}
    (hi : EvIM K wi es es1 (xs.map em)) (w : Wk es1 (env s0)) (hg : ∀ x s, EvG K g vs (env s) (em x) (en2 x s)) (hb : ∀ x s, x ∈ xs → SM K tb (en2 x s) (f x s) (bodyRes env ed ee)) :
    SM K (tFor wi g tb) es (forF xs s0 f) (loopRes env ed ee) := fun r e F G H σ D st q => by
  refine hi F G H σ st _ fun J G1 H1 s1 g1 y => ?_
  refine ⟨fun i m σ' H' => ∃ G' s, Stt K F G' H' σ' (env s) ∧ Same G1 G' ∧ m = xs.length - i ∧ i ≤ xs.length ∧ forF (xs.drop i) s f = some r, ⟨_, G1, s0, s1.wk w, Same.refl _, rfl, Nat.zero_le _, e⟩, ?_⟩
  rintro i m σ' H' ⟨G', s, st', g', rfl, hle, e'⟩
  by_cases hlt : i < xs.length
  · refine .inr ?_
    have hd : xs.drop i = xs[i] :: xs.drop (i + 1) := List.drop_eq_getElem_cons hlt
    rw [hd] at e'
    have hmem : xs[i] ∈ xs := List.getElem_mem hlt
    cases hf : f xs[i] s with
    | none =>
      have : forF (xs[i] :: xs.drop (i + 1)) s f = none := by
        show (f xs[i] s).bind _ = none
        rw [hf]
        rfl
      rw [this] at e'
      cases e'
    | some o =>
      obtain ⟨go, yld⟩ := (y i F G' H' σ' (env s) g' st').1 (em xs[i]) (by rw [List.getElem?_map, List.getElem?_eq_getElem hlt]; rfl)
      refine ⟨go, fun σ2 H2 => ∃ G2 s2, Stt K F G2 H2 σ2 (env s2) ∧ Same G1 G2 ∧ forF (xs.drop (i + 1)) s2 f = some r, fun σ2 H2 ⟨G2, s2, a1, a2, a3⟩ => ⟨xs.length - (i + 1), by omega, G2, s2, a1, a2, rfl, by omega, a3⟩, fun x H2 hy => ?_⟩
      obtain ⟨G2, st2, g2, rx⟩ := yld x H2 hy
      refine hg xs[i] s F G2 H2 σ' x st2 rx _ fun σ3 G3 H3 st3 g3 _ _ => ?_
      refine hb xs[i] s hmem o hf F G3 H3 σ3 _ st3 ?_
      have e2 : Fl.step (fun s' => forF (xs.drop (i + 1)) s' f) o = some r := by
        have : forF (xs[i] :: xs.drop (i + 1)) s f = Fl.step (fun s' => forF (xs.drop (i + 1)) s' f) o := by
          show (f xs[i] s).bind _ = _
          rw [hf]
          rfl
        rw [← this]
        exact e'
      have gg := g1.trans (g'.trans (g2.trans g3))
      cases o with
      | nx s' => exact ⟨fun G4 H4 σ4 st4 g4 => ⟨G4, s', st4, g'.trans (g2.trans (g3.trans g4)), e2⟩, fun G4 H4 σ4 st4 g4 => ⟨G4, s', st4, g'.trans (g2.trans (g3.trans g4)), e2⟩⟩
      | bk s' =>
        cases e2
        exact q.up gg
      | rt r' =>
        cases e2
        exact q.up gg
  · have e3 : i = xs.length := by omega
    subst e3
    refine .inl ⟨(y xs.length F G' H' σ' (env s) g' st').2 (by simp), ?_⟩
    rw [List.drop_length] at e'
    cases e'
    exact q G' H' σ' st' (g1.trans g')
theorem sm_forLM {xs : List α} {em : α → Dt} {wi : TI} {g : TG} {vs : List Nat} {env : S → List Sl} {en2 : α → S → List Sl} {s0 : S} {f : α → S → Option S}
    (hi : EvIM K wi es es1 (xs.map em)) (w : Wk es1 (env s0)) (hg : ∀ x s, EvG K g vs (env s) (em x) (en2 x s)) (hb : ∀ x s, x ∈ xs → SM K tb (en2 x s) (f x s) fun s' => .go (env s')) :
    SM K (tFor wi g tb) es (forL xs s0 f) fun s => .nx (env s) := fun r e => by
  have h := sm_forM (R := Empty) (ed := fun _ => .non) (ee := fun _ => []) (f := fun x s => (f x s).bind fun s' => some (.nx s')) hi w hg fun x s hx => sm_bind fun s' hs => sm_some (hb x s hx s' hs)
  refine h (Fl.nx r) ?_
  rw [forF_forL (f := f), e]
  rfl
end
end DL

/-! Dl26: f-strings, join, own.append(what changes the slots) -/
namespace DL
open PySem L2
theorem bb_af {a b : Bool} (h : b = false) : (a && b) = false := by subst h; cases a <;> rfl
theorem bb_fa {a b : Bool} (h : a = false) : (a && b) = false := by subst h; rfl
theorem bb_tt {a b : Bool} (h : a = true) (k : b = true) : (a && b) = true := by subst h k; rfl
theorem bb_ot {a b : Bool} (h : b = true) : (a || b) = true := by subst h; cases a <;> rfl
theorem bb_to {a b : Bool} (h : a = true) : (a || b) = true := by subst h; rfl
theorem bb_ff {a b : Bool} (h : a = false) (k : b = false) : (a || b) = false := by subst h k; rfl
theorem ev_as {K : PySem.W.Frag} {te : TE} {es : List Sl} {α : Type} {em : α → Dt} {x : α} (h : Ev K te es (em x)) : Ev K te es (em x) := h
def lensS (ys : List Str) : Nat := (ys.map (·.length)).sum
/-- the parts of an f-string one behind the other -/
def fstrC (ys : List Str) : Option Str := if lensS ys ≤ 16000000 then some (ys.foldl (· ++ ·) Str.empty) else none
def joinC (z : Str) (ys : List Str) : Option Str := if lensS ys + ys.length * z.length ≤ 16000000 then some (Txt.join z ys) else none
abbrev rJoin (K : PySem.W.Frag) : V → List V → Hp → VK → Prop := fun x xs H Q => ∃ a p, ∃ ys : List Str, x = .str a ∧ xs = [.ref p] ∧ (SqL K H p (ys.map V.str) ∨ SqT K H p (ys.map V.str)) ∧
      (ys.map (·.length)).sum + ys.length * a.length ≤ 16777216 ∧ Q (.str (Txt.join a ys)) H
section
variable {K : PySem.W.Frag} {es es1 es' : List Sl}
inductive FJ (K : PySem.W.Frag) (es : List Sl) : List TE → List Str → Prop
  | nil : FJ K es [] []
  | str {te : TE} {y : Str} {ts : List TE} {ys : List Str} (h : Ev K te es (.str y)) (r : FJ K es ts ys) : FJ K es (te :: ts) (y :: ys)
  | fmt {te : TE} {y : Str} {ts : List TE} {ys : List Str} (h : Ev K te es (.str y)) (r : FJ K es ts ys) : FJ K es (tFmt te :: ts) (y :: ys)
  | int {te : TE} {i : Int} {y : Str} {ts : List TE} {ys : List Str} (h : Ev K te es (.int i)) (e : strC i = some y) (r : FJ K es ts ys) : FJ K es (tFmt te :: ts) (y :: ys)
theorem len_app (a b : Str) : (a ++ b).length = a.length + b.length := by
  show (a.cps ++ b.cps).size = _
  rw [Array.size_append]
  rfl
theorem lens_cons (y : Str) (ys : List Str) : lensS (y :: ys) = y.length + lensS ys := rfl
theorem fj_run {ts : List TE} {ys : List Str} (h : FJ K es ts ys) : ∀ (acc : Str), acc.length + lensS ys ≤ 16000000 → ∀ F G H σ, Stt K F G H σ es → ∀ Q : Str → Hp → Prop, (∀ G' H', Stt K F G' H' σ es → Same G G' → Q (ys.foldl (· ++ ·) acc) H') → tJs ts acc σ H Q := by
  have sz : (16000000 : Nat) ≤ sizeLine := by decide
  induction h with
  | nil => intro acc _ F G H σ s Q q; exact q G H s (Same.refl _)
  | @str te y ts ys h r ih =>
    intro acc hl F G H σ s Q q
    rw [lens_cons] at hl
    refine h F G H σ s _ fun v G1 H1 s1 g1 r1 => ?_
    cases r1
    refine ⟨y, rfl, by rw [len_app]; omega, ih (acc ++ y) (by rw [len_app]; omega) F G1 H1 σ s1 Q fun G2 H2 s2 g2 => q G2 H2 s2 (g1.trans g2)⟩
  | @fmt te y ts ys h r ih =>
    intro acc hl F G H σ s Q q
    rw [lens_cons] at hl
    refine h F G H σ s _ fun v G1 H1 s1 g1 r1 => ?_
    cases r1
    exact .inl ⟨y, rfl, by omega, y, rfl, by rw [len_app]; omega, ih (acc ++ y) (by rw [len_app]; omega) F G1 H1 σ s1 Q fun G2 H2 s2 g2 => q G2 H2 s2 (g1.trans g2)⟩
  | @int te i y ts ys h e r ih =>
    intro acc hl F G H σ s Q q
    rw [lens_cons] at hl
    obtain ⟨hi, rfl⟩ := ite_some e
    refine h F G H σ s _ fun v G1 H1 s1 g1 r1 => ?_
    cases r1
    exact .inr ⟨i, rfl, hi, _, rfl, by rw [len_app]; omega, ih (acc ++ _) (by rw [len_app]; omega) F G1 H1 σ s1 Q fun G2 H2 s2 g2 => q G2 H2 s2 (g1.trans g2)⟩
theorem ev_joined {ts : List TE} {ys : List Str} {z : Str} (h : FJ K es ts ys) (e : fstrC ys = some z) : Ev K (fun σ H Q => tJs ts Str.empty σ H fun out H1 => Q (.str out) H1) es (.str z) := fun F G H σ s Q q => by
  obtain ⟨hl, rfl⟩ := ite_some e
  exact fj_run h Str.empty (by show 0 + lensS ys ≤ _; omega) F G H σ s _ fun G1 H1 s1 g1 => q _ G1 H1 s1 g1 (.str _)
theorem vs_str {G : Hp} : ∀ {vs : List V} {ys : List Str}, Reps K G vs (ys.map Dt.str) → vs = ys.map V.str
  | [], [], _ => rfl
  | v :: vs, y :: ys, .cons h r => by
    cases h
    exact congrArg (V.str y :: ·) (vs_str r)
  | [], _ :: _, r => by cases r
  | _ :: _, [], r => by cases r
theorem ev_joinS {to te : TE} {z w : Str} {ys : List Str} (ha : Ev K to es (.str z)) (hb : Ev K te es (.lst (ys.map Dt.str))) (e : joinC z ys = some w) : Ev K (tM1 (rJoin K) to te) es (.str w) := fun F G H σ s Q q => by
  obtain ⟨hl, rfl⟩ := ite_some e
  refine ha F G H σ s _ fun x G1 H1 s1 g1 r1 => ?_
  cases r1
  refine ⟨⟨_, rfl⟩, hb F G1 H1 σ s1 _ fun y G2 H2 s2 g2 r2 => ?_⟩
  cases r2 with
  | lst hs r =>
    have e := vs_str r
    subst e
    exact ⟨_, _, ys, rfl, rfl, .inl (s2.g.seq hs), Nat.le_trans hl (by decide), q _ G2 H2 s2 (g1.trans g2) (.str _)⟩
variable {ρ : Type} {tz : TS} {m : Option ρ} {oc : ρ → Res} {te : TE}
theorem sm_appM {α β : Type} {em : α → Dt} {em0 : β → Dt} {xs ys : List α} {xs0 : List β} {x : α} {i : Nat} {a a0 : Option Addr} (hi0 : es[i]? = some (.own a0 (xs0.map em0))) (h : EvM K te es es1 (em x)) (hi : es1[i]? = some (.own a (xs.map em))) (hy : appC xs x = some ys) (he : es1.set i (.own a (ys.map em)) = es') (k : SM K tz es' m oc) :
    SM K (tSeq (tDrop (tBM K "list" rAppend (tVar i) (tCons te tNil))) tz) es m oc := fun r e F G H σ D s q => by
  obtain ⟨hl, rfl⟩ := ite_some hy
  obtain ⟨o, ho, p, vs, eo, g, f, hp, rr, an⟩ := s.sl i _ hi0
  subst eo
  refine ⟨.ref p, ho, .inl ⟨rfl, vs, .inl (.inl hp)⟩, ?_⟩
  refine h F G H σ s _ fun v G1 H1 s1 g1 r1 => ?_
  obtain ⟨o, ho', p', vs', eo, g', f', hp', rr', an'⟩ := s1.sl i _ hi
  subst eo
  rw [ho] at ho'
  cases ho'
  have hlen := rr'.length
  rw [List.length_map] at hlen
  have sz : (10000000 : Nat) < sizeLine := by decide
  refine ⟨p, vs', v, rfl, rfl, hp', by omega, ?_⟩
  refine k r e F G1 _ σ D (he ▸ s1.write hi rfl rfl ho ⟨p, vs' ++ [v], rfl, g', f', upd_same, ?_, an'⟩ g' f') (q.up g1)
  rw [List.map_append]
  exact rr'.append (.cons r1 .nil)
end
end DL

/-! Dl27: comprehensions whose items change the slots -/
namespace DL
open PySem L2
/-- a new list, and the slots changed -/
def EvLM (K : PySem.W.Frag) (te : TE) (es es' : List Sl) (ds : List Dt) : Prop := ∀ F G H σ, Stt K F G H σ es → ∀ Q : VK, (∀ p vs G' H', Stt K (upd F p (.lst vs)) G' H' σ es' → F p = none → Same G G' → Reps K G' vs ds → Q (.ref p) H') → te σ H Q
def mapS {α β S : Type} (f : α → S → Option (β × S)) : List α → S → Option (List β × S)
  | [], s => some ([], s)
  | x :: xs, s => (f x s).bind fun r => (mapS f xs r.2).bind fun q => some (r.1 :: q.1, q.2)
def mapSC {α β S : Type} (xs : List α) (s : S) (f : α → S → Option (β × S)) : Option (List β × S) := if xs.length ≤ 1000000 then mapS f xs s else none
/-- the frame's slots behind an item: data as they were, own lists as they are -/
inductive Swp (vs : List Nat) : Nat → List Sl → List Sl → List Sl → Prop
  | nil {k : Nat} : Swp vs k [] [] []
  | d {k : Nat} {t a : Sl} {as bs cs : List Sl} (h : t.isOwn = false) (r : Swp vs (k + 1) as bs cs) : Swp vs k (t :: as) (a :: bs) (t :: cs)
  | o {k : Nat} {t u : Sl} {as bs cs : List Sl} (h : k ∉ vs) (r : Swp vs (k + 1) as bs cs) : Swp vs k (u :: as) (t :: bs) (t :: cs)
theorem Swp.get {vs : List Nat} {k : Nat} {as bs cs : List Sl} (h : Swp vs k as bs cs) : ∀ {i : Nat} {t : Sl}, cs[i]? = some t → (t.isOwn = false ∧ as[i]? = some t) ∨ (k + i ∉ vs ∧ bs[i]? = some t) := by
  induction h with
  | nil => intro i t e; simp at e
  | @d k t a as bs cs h r ih =>
    intro i u e
    cases i with
    | zero => simp at e; subst e; exact .inl ⟨h, rfl⟩
    | succ i =>
      rcases ih (by simpa using e) with ⟨a1, a2⟩ | ⟨a1, a2⟩
      · exact .inl ⟨a1, by simpa using a2⟩
      · exact .inr ⟨by rwa [show k + 1 + i = k + (i + 1) by omega] at a1, by simpa using a2⟩
  | @o k t u as bs cs h r ih =>
    intro i w e
    cases i with
    | zero => simp at e; subst e; exact .inr ⟨h, rfl⟩
    | succ i =>
      rcases ih (by simpa using e) with ⟨a1, a2⟩ | ⟨a1, a2⟩
      · exact .inl ⟨a1, by simpa using a2⟩
      · exact .inr ⟨by rwa [show k + 1 + i = k + (i + 1) by omega] at a1, by simpa using a2⟩
theorem Swp.len {vs : List Nat} {k : Nat} {as bs cs : List Sl} (h : Swp vs k as bs cs) : cs.length = as.length := by
  induction h with
  | nil => rfl
  | d h r ih => simp [ih]
  | o h r ih => simp [ih]
section
variable {K : PySem.W.Frag} {es es1 es2 es' : List Sl} {α β S : Type} {te : TE} {ta : TA} {d : Dt}
theorem eim_of {wi : TI} {ds : List Dt} (h : EvI K wi es ds) : EvIM K wi es es ds := h
theorem Stt.swapM {F G1 H1 G2 H2 : Hp} {σ σ2 : L2.St} {fs gs : List Sl} {vs : List Nat} (s : Stt K F G1 H1 σ es) (w : Swp vs 0 es fs gs) (s2 : Stt K F G2 H2 σ2 fs) (hk : ∀ k, k ∉ vs → σ2[k]? = σ[k]?) (g : Same G1 G2) : Stt K F G2 H2 σ gs where
  f := s2.f
  g := s2.g
  dj := s2.dj
  len := by rw [s.len, w.len]
  sl := fun i t e => by
    rcases w.get e with ⟨h, e1⟩ | ⟨h, e1⟩
    · obtain ⟨x, hx, k⟩ := s.sl i t e1
      refine ⟨x, hx, ?_⟩
      cases t with
      | un => trivial
      | d x =>
        obtain ⟨v, e, r⟩ := k
        exact ⟨v, e, r.mono g⟩
      | own _ _ => cases h
      | obo _ _ _ => cases h
      | prv _ => cases h
    · obtain ⟨x, hx, k⟩ := s2.sl i t e1
      rw [Nat.zero_add] at h
      exact ⟨x, by rw [← hk i h]; exact hx, k⟩
  sp := sp_of s2.sp fun j t x a ej hj h => by
    rcases w.get ej with ⟨q, _⟩ | ⟨q, e1⟩
    · cases t with
      | un => exact h.elim
      | d _ => exact h.elim
      | _ => cases q
    · rw [Nat.zero_add] at q
      exact ⟨t, x, e1, by rw [hk j q]; exact hj, h⟩
theorem el_mapM {wi : TI} {g : TG} {vs : List Nat} {xs : List α} {em : α → Dt} {em2 : β → Dt} {f : α → S → Option (β × S)} {env : S → List Sl} {en2 : α → S → List Sl} {en3 : α → S → List Sl} {s0 : S} {r : List β × S}
    (hi : EvIM K wi es (env s0) (xs.map em)) (hg : ∀ x s, EvG K g vs (wipeS (env s) vs) (em x) (en2 x s)) (hb : ∀ x s q, f x s = some q → EvM K te (en2 x s) (en3 x q.2) (em2 q.1)) (hw : ∀ x s s', Swp vs 0 (env s) (en3 x s') (env s')) (h : mapSC xs s0 f = some r) :
    EvLM K (tLc wi g tYes te vs) es (env r.2) (r.1.map em2) := fun F G H σ st Q q => by
  obtain ⟨hz, h⟩ := ite_some' h
  refine hi F G H σ st _ fun J G1 H1 s1 g1 y => fun Dl hD => ?_
  have hF : F Dl = none := s1.fnone hD
  have sz : (1000000 : Nat) < sizeLine := by decide
  refine ⟨fun i m H' => ∃ (G' : Hp) (acc : List V) (zs : List β) (s : S) (rest : List β × S), Stt K (upd F Dl (.lst acc)) G' H' σ (env s) ∧ Same G1 G' ∧ Reps K G' acc (zs.map em2) ∧ zs.length ≤ i ∧ mapS f (xs.drop i) s = some rest ∧ zs ++ rest.1 = r.1 ∧ rest.2 = r.2 ∧ m = xs.length - i ∧ i ≤ xs.length,
    ⟨_, G1, [], [], s0, r, s1.prot hD, Same.refl _, .nil, Nat.zero_le _, h, rfl, rfl, rfl, Nat.zero_le _⟩, ?_⟩
  rintro i m H' ⟨G', acc, zs, s, rest, st', g', racc, hzl, hc, hap, hap2, rfl, hle⟩
  by_cases hlt : i < xs.length
  · refine .inr ?_
    have hdr : xs.drop i = xs[i] :: xs.drop (i + 1) := List.drop_eq_getElem_cons hlt
    rw [hdr] at hc
    cases hf : f xs[i] s with
    | none =>
      have : mapS f (xs[i] :: xs.drop (i + 1)) s = none := by
        show (f xs[i] s).bind _ = none
        rw [hf]
        rfl
      rw [this] at hc
      cases hc
    | some o =>
      cases hr : mapS f (xs.drop (i + 1)) o.2 with
      | none =>
        have : mapS f (xs[i] :: xs.drop (i + 1)) s = none := by
          show (f xs[i] s).bind _ = none
          rw [hf]
          show (mapS f (xs.drop (i + 1)) o.2).bind _ = none
          rw [hr]
          rfl
        rw [this] at hc
        cases hc
      | some rest' =>
        have hc' : rest = (o.1 :: rest'.1, rest'.2) := by
          have : mapS f (xs[i] :: xs.drop (i + 1)) s = some (o.1 :: rest'.1, rest'.2) := by
            show (f xs[i] s).bind _ = _
            rw [hf]
            show (mapS f (xs.drop (i + 1)) o.2).bind _ = _
            rw [hr]
            rfl
          rw [this] at hc
          exact (Option.some.inj hc).symm
        obtain ⟨go, yld⟩ := (y i _ G' H' σ (env s) g' st').1 (em xs[i]) (by rw [List.getElem?_map, List.getElem?_eq_getElem hlt]; rfl)
        refine ⟨go, fun H2 => ∃ (G2 : Hp) (acc2 : List V) (zs2 : List β) (s2 : S) (rest2 : List β × S), Stt K (upd F Dl (.lst acc2)) G2 H2 σ (env s2) ∧ Same G1 G2 ∧ Reps K G2 acc2 (zs2.map em2) ∧ zs2.length ≤ i + 1 ∧ mapS f (xs.drop (i + 1)) s2 = some rest2 ∧ zs2 ++ rest2.1 = r.1 ∧ rest2.2 = r.2,
          fun H2 ⟨G2, acc2, zs2, s2, rest2, a1, a2, a3, a4, a5, a6, a7⟩ => ⟨xs.length - (i + 1), by omega, G2, acc2, zs2, s2, rest2, a1, a2, a3, a4, a5, a6, a7, rfl, by omega⟩, fun x H2 hy => ?_⟩
        obtain ⟨G2, st2, g2, rx⟩ := yld x H2 hy
        have hte := hb xs[i] s o hf
        refine hg xs[i] s (upd F Dl (.lst acc)) G2 H2 (L2.wipe σ vs) x (st2.wipe vs) rx _ fun σ3 G3 H3 st3 g3 l3 k3 => ?_
        refine ⟨by rw [wipe_ext (σ := L2.wipe σ vs) l3 k3]; exact wipe_ext (wipe_length _ _) fun k hk => wipe_get hk, ?_⟩
        refine et_yes _ G3 H3 σ3 st3 _ fun G4 H4 st4 g4 => ?_
        have gg : Same G' G4 := g2.trans (g3.trans g4)
        show te σ3 H4 _
        refine hte _ G4 H4 σ3 st4 _ fun v G5 H5 st5 g5 r5 => ?_
        have hzl2 : acc.length ≤ i := by
          have := racc.length
          rw [List.length_map] at this
          omega
        have sw := st2.swapM (hw xs[i] s o.2) st5 (fun k hk => by rw [k3 k hk]; exact wipe_get hk) (g3.trans (g4.trans g5))
        refine ⟨acc, st5.f Dl _ upd_same, by omega, G5, acc ++ [v], zs ++ [o.1], o.2, rest', sw.reprot, g'.trans (gg.trans g5), ?_, ?_, hr, ?_, ?_⟩
        · rw [List.map_append]
          exact (racc.mono (gg.trans g5)).append (.cons r5 .nil)
        · rw [List.length_append, List.length_singleton]
          omega
        · rw [List.append_assoc]
          rw [hc'] at hap
          exact hap
        · rw [hc'] at hap2
          exact hap2
  · have e3 : i = xs.length := by omega
    subst e3
    refine .inl ⟨(y xs.length _ G' H' σ (env s) g' st').2 (by simp), ?_⟩
    rw [List.drop_length] at hc
    cases hc
    have e4 : zs = r.1 := by
      have : zs ++ [] = r.1 := hap
      rwa [List.append_nil] at this
    have e5 : s = r.2 := hap2
    subst e4 e5
    exact q Dl acc G' H' st' hF (g1.trans g') racc
theorem evm_new {ds : List Dt} (h : EvLM K te es es' ds) : EvM K te es es' (.lst ds) := fun F G H σ s Q q =>
  h F G H σ s _ fun p vs G1 H1 s1 hF g1 r1 => by
    have gp : G1 p = none := s1.dj p _ upd_same
    exact q _ _ _ (s1.give hF) (g1.trans (same_upd gp)) (.lst (.inl (.inl upd_same)) (r1.mono (same_upd gp)))
theorem evm_pure {em2 : β → Dt} {en3 : S → List Sl} {y : β} {s : S} (h : EvM K te es (en3 s) (em2 y)) : ∀ q, some (y, s) = some q → EvM K te es (en3 q.2) (em2 q.1) := fun q e => by cases e; exact h
theorem evm_bnd {γ : Type} {em2 : β → Dt} {en3 : S → List Sl} {m1 : Option γ} {k : γ → Option (β × S)} (h : ∀ x, m1 = some x → ∀ q, k x = some q → EvM K te es (en3 q.2) (em2 q.1)) : ∀ q, m1.bind k = some q → EvM K te es (en3 q.2) (em2 q.1) := fun q e => by
  cases z : m1 with
  | none => rw [z] at e; cases e
  | some x => rw [z] at e; exact h x z q e
variable {ρ : Type} {tz : TS} {m : Option ρ} {oc : ρ → Res}
theorem sm_ownM {i : Nat} {ds : List Dt} (h : EvLM K te es es1 ds) (he : es1.set i (.own none ds) = es') (k : SM K tz es' m oc) : SM K (tSeq (tAsg te (gName i)) tz) es m oc := fun r e F G H σ D s q =>
  h F G H σ s _ fun p vs G1 H1 s1 hF g1 r1 => k r e F G1 H1 _ D (he ▸ s1.take hF r1) (q.up g1)
end
end DL

/-! Dl28: defs and methods that write to their first argument, an object -/
namespace DL
open PySem L2
def RMo (C : Addr) (P : List (Str × Dt) → List Dt → Dt → List (Str × Dt) → Prop) : List Sl → Dt → List Sl → Prop := fun ss d ss' => ∃ p fs ds gs, ss = .obo (some p) C fs :: ds.map .d ∧ ss' = .obo (some p) C gs :: ds.map .d ∧ P fs ds d gs
section
variable {K : PySem.W.Frag} {es es1 es2 es' fs : List Sl} {te : TE} {t : TA} {a b c d : Dt} {ds : List Dt} {C : Addr} {us gs : List (Str × Dt)}
theorem obo_data {F G H : Hp} {p dx : Addr} {vs : List V} {ws : List (Str × V)} (f : Same F H) (g : Same G H) (dj : ∀ a o, F a = some o → G a = none) (gp : G p = none) (fp : F p = none) (hp : H p = some (.ins C dx ws)) (rw' : RepF K G ws us) (r : Reps K G vs ds) :
    Stt K F G H ((V.ref p :: vs).map some) (.obo (some p) C us :: ds.map .d) := by
  have base := stt_data f g dj r
  refine ⟨f, g, dj, by rw [List.map_cons, List.length_cons, List.length_cons, base.len], fun i t e => ?_, sp_one⟩
  · cases i with
    | zero =>
      cases e
      exact ⟨_, rfl, p, dx, ws, rfl, gp, fp, hp, rw', fun q e => (Option.some.inj e).symm⟩
    | succ i => exact base.sl i t e
end
section
open PyProof.Rows
variable {P : Program} {w : World} {K : PySem.W.Frag} {mg : Str → Option Value} {base : Heap}
theorem fn_O {x qual : Str} {st : Stmt} {f : Addr} {fd : FuncData} {N ps : List Str} {k : Nat} {C : Addr} {R : List (Str × Dt) → List Dt → Dt → List (Str × Dt) → Prop} (F : Fun K x qual st f fd) (S : FnScope N ps (defScope st)) (hl : ∀ xs ds d ys, R xs ds d ys → ds.length + 1 = ps.length)
    (body : ∀ (cdv : Value) (A : Around) (outer : List Env) (s : Shared) (H : Hp) (E : XK), Room k (A.deeper (PyProof.Rows.envOfC qual (defScope st) s.heap.objs.size f cdv)) →
      ∃ t, PSs (cxOf CX0 P w K mg base N qual (defScope st) f cdv A outer s H E).nox (defBody st) t ∧ ∀ p xs ds d ys, R xs ds d ys → ∃ o es, SEv K t (.obo (some p) C xs :: ds.map .d ++ List.replicate (N.length - ps.length) .un) o ∧ Ends2 d (.obo (some p) C ys :: es) o) :
    FnOk P w K mg base CX0 (k + 1) f fd ps (FSpec K (RMo C R)) := by
  refine F.ok S (fun vs H Q E h => ?_) (fun cdv A outer s H vs Q E hr h => ?_)
  · obtain ⟨F, G, ss, d, ss', s, ⟨p, xs, ds, ys, rfl, _, hR⟩, _⟩ := h
    have := s.len
    rw [List.length_map, List.length_cons, List.length_map, hl xs ds d ys hR] at this
    exact this
  · obtain ⟨t, ht, hb⟩ := body cdv A outer s H E hr
    refine ⟨t, ht, ?_⟩
    obtain ⟨F1, G, ss, d, ss', st1, ⟨p, xs, ds, ys, rfl, rfl, hR⟩, q⟩ := h
    obtain ⟨o, es, hs, he⟩ := hb p xs ds d ys hR
    refine hs F1 G H _ _ (stt_start st1 (by rw [List.length_cons, List.length_map, hl xs ds d ys hR])) (good_end he fun v G' H' σ' s' g r => ?_)
    cases vs with
    | nil =>
      have := st1.len
      simp at this
    | cons v0 vs =>
      obtain ⟨o0, ho0, p0, dx0, ws0, e0, g0, f0, h0, r0, a0⟩ := st1.sl 0 _ rfl
      cases ho0
      cases e0
      obtain rfl := a0 p rfl
      obtain ⟨o1, ho1, p1, dx1, ws1, e1, g1, f1, h1, r1, a1⟩ := s'.sl 0 _ rfl
      subst e1
      obtain rfl := a1 _ rfl
      have rs : Reps K G vs ds := data_of (vs := vs) (ds := ds) (K := K) (F := F1) (G := G) (H := H) (by have := st1.len; simpa using this) fun i t e => st1.sl (i + 1) t e
      exact q v G' H' (obo_data s'.f s'.g s'.dj g1 f1 h1 r1 (rs.mono g)) g r
end
section
variable {K : PySem.W.Frag} {es es1 es2 es' fs : List Sl} {te ta tb : TE} {t : TA} {a b c d : Dt} {ds : List Dt} {C : Addr} {us us0 gs : List (Str × Dt)}
theorem Stt.wroteO {F G H G' H' : Hp} {σ : L2.St} {i : Nat} {a : Option Addr} {p dx : Addr} {ws : List (Str × V)} (s : Stt K F G H σ es) (hi : es[i]? = some (.obo a C us)) (hp : σ[i]? = some (some (.ref p))) (f : Same (remP G H p) H') (g : Same G' H') (dj : ∀ x o, remP G H p x = some o → G' x = none) (gg : Same G G')
    (gp : G' p = none) (h' : H' p = some (.ins C dx ws)) (r : RepF K G' ws gs) : Stt K F G' H' σ (es.set i (.obo a C gs)) := by
  have hlt := (List.getElem?_eq_some_iff.mp hi).1
  obtain ⟨o0, ho0, p0, dx0, ws0, e0, g0, f0, h0, r0, a0⟩ := s.sl i _ hi
  rw [hp] at ho0
  subst e0
  cases ho0
  have up : ∀ x o, F x = some o → remP G H p x = some o := fun x o e => by
    have ne : x ≠ p := by rintro rfl; rw [f0] at e; cases e
    rw [remP_of ne (s.dj x o e)]
    exact s.f x o e
  refine ⟨fun x o e => f x o (up x o e), g, fun x o e => dj x o (up x o e), by rw [List.length_set]; exact s.len, fun j t e => ?_, sp_setK s.sp hi fun _ _ h => h⟩
  · by_cases q : i = j
    · subst q
      rw [List.getElem?_set_self hlt] at e
      cases e
      exact ⟨_, hp, p, dx, ws, rfl, gp, f0, h', r, a0⟩
    · rw [List.getElem?_set_ne q] at e
      obtain ⟨o, ho, k⟩ := s.sl j t e
      refine ⟨o, ho, k.tr gg fun a m g1 f1 => ?_⟩
      have ne := s.apart q hi rfl hp e ho a m
      obtain ⟨_, _, u, hu⟩ := k.at m
      have mm := remP_of (G := G) (H := H) ne g1
      rw [hu] at mm
      exact ⟨dj _ _ mm, f1, fun w hw => by rw [hu] at hw; cases hw; exact f _ _ mm⟩
/-- the call itself, the object at p0 -/
theorem calledO {P : List (Str × Dt) → List Dt → Dt → List (Str × Dt) → Prop} {E : XK} {i : Nat} {a : Option Addr} {F G G1 H1 : Hp} {σ : L2.St} {p : Addr} {vs : List V} {Q : VK} (s1 : Stt K F G1 H1 σ es1) (ho : σ[i]? = some (some (.ref p))) (hi : es1[i]? = some (.obo a C us)) (hP : P us ds d gs) (he : es1.set i (.obo a C gs) = es') (r1 : Reps K G1 vs ds) (gg : Same G G1)
    (q : ∀ v G' H', Stt K F G' H' σ es' → Same G G' → Rep K G' v d → Q v H') : FSpec K (RMo C P) (.ref p :: vs) H1 Q E := by
  subst he
  obtain ⟨o1, ho1, p1, dx1, ws, e1, gp, fp, hp, rr, an⟩ := s1.sl i _ hi
  subst e1
  rw [ho] at ho1
  obtain rfl : p = p1 := by cases ho1; rfl
  have pp : remP G1 H1 p p = none := by
    unfold remP
    rw [if_pos rfl]
  refine ⟨remP G1 H1 p, G1, .obo (some p) C us :: ds.map .d, d, .obo (some p) C gs :: ds.map .d, obo_data (fun x o e => (remP_some e).2.1) s1.g (fun x o e => (remP_some e).2.2) gp pp hp rr r1, ⟨p, us, ds, gs, rfl, rfl, hP⟩, fun v G2 H2 s2 g2 r2 => ?_⟩
  obtain ⟨o2, ho2, p2, dx2, ws2, e2, gp2, fp2, hp2, rr2, an2⟩ := s2.sl 0 _ rfl
  cases ho2
  cases e2
  exact q v G2 H2 (s1.wroteO hi ho s2.f s2.g s2.dj g2 gp2 hp2 rr2) (gg.trans g2) r2
/-- f(own object, ..) -/
theorem evm_callO {P : List (Str × Dt) → List Dt → Dt → List (Str × Dt) → Prop} {E : XK} {i : Nat} {a a0 : Option Addr} {C0 : Addr} (hi0 : es[i]? = some (.obo a0 C0 us0)) (ha : EvMA K t es es1 ds) (hi : es1[i]? = some (.obo a C us)) (hP : P us ds d gs) (he : es1.set i (.obo a C gs) = es') :
    EvM K (tCall (FSpec K (RMo C P)) [] E (tCons (tVar i) t)) es es' d := fun F G H σ s Q q => by
  obtain ⟨o0, ho0, p0, _, _, e0, _⟩ := s.sl i _ hi0
  subst e0
  refine ⟨_, ho0, ha F G H σ s _ fun vs G1 H1 s1 g1 r1 => ?_⟩
  show FSpec K (RMo C P) (.ref p0 :: vs ++ []) H1 Q E
  rw [List.append_nil]
  exact calledO s1 ho0 hi hP he r1 g1 q
/-- own.m(..) -/
theorem evm_methO {P : List (Str × Dt) → List Dt → Dt → List (Str × Dt) → Prop} {E : XK} {i : Nat} {a a0 : Option Addr} {m : Str} (hi0 : es[i]? = some (.obo a0 C us0)) (hm : us0.lookup m = none) (ha : EvMA K t es es1 ds) (hi : es1[i]? = some (.obo a C us)) (hP : P us ds d gs) (he : es1.set i (.obo a C gs) = es') :
    EvM K (tMeth C m (FSpec K (RMo C P)) [] E (tVar i) t) es es' d := fun F G H σ s Q q => by
  obtain ⟨o0, ho0, p0, dx0, ws0, e0, g0, f0, h0, r0, an0⟩ := s.sl i _ hi0
  subst e0
  refine ⟨_, ho0, p0, dx0, ws0, rfl, h0, r0.lookup_none hm, ha F G H σ s _ fun vs G1 H1 s1 g1 r1 => ?_⟩
  rw [List.append_nil]
  exact calledO s1 ho0 hi hP he r1 g1 q
end
section
variable {K : PySem.W.Frag} {es es' : List Sl} {te : TE} {t : TA} {d : Dt} {ds dds : List Dt} {dvs : List V} {E : XK}
/-- all slots, as arguments -/
def taS : TA := fun σ H Q => ∃ vs, σ = vs.map some ∧ Q vs H
theorem slots_vs : ∀ {ds : List Dt} {σ : L2.St}, σ.length = ds.length → (∀ (i : Nat) (d : Dt), ds[i]? = some d → ∃ v, σ[i]? = some (some v)) → ∃ vs : List V, σ = vs.map some
  | [], [], _, _ => ⟨[], rfl⟩
  | d :: ds, o :: σ, hl, h => by
    obtain ⟨v, hv⟩ := h 0 d rfl
    obtain ⟨vs, rfl⟩ := slots_vs (ds := ds) (σ := σ) (by simpa using hl) fun i e k => h (i + 1) e (by simpa using k)
    have : o = some v := by simpa using hv
    exact ⟨v :: vs, by rw [this]; rfl⟩
  | [], _ :: _, hl, _ => by simp at hl
  | _ :: _, [], hl, _ => by simp at hl
theorem ea_slots : EvA K taS (ds.map .d) ds := fun F G H σ s Q q => by
  obtain ⟨vs, rfl⟩ := slots_vs (ds := ds) (σ := σ) (by rw [s.len, List.length_map]) fun i d e => by
    obtain ⟨o, ho, v, ev, _⟩ := s.sl i (.d d) (by rw [List.getElem?_map, e]; rfl)
    exact ⟨v, by rw [ho, ev]⟩
  exact ⟨vs, rfl, q vs G H s (Same.refl _) (@data_of K F G H [] [] vs ds (by have := s.len; simpa using this) fun i t e => s.sl i t e)⟩
theorem map_some_inj {vs ws : List V} (h : vs.map some = ws.map some) : vs = ws := by
  have := congrArg (List.filterMap _root_.id) h
  simpa [List.filterMap_map] using this
/-- C(..), the arguments change the slots -/
theorem evm_make {P : List Dt → List (Str × Dt) → Prop} {C : Addr} {fs : List (Str × Dt)} (ha : EvMA K t es es' ds) (hP : P ds fs) : EvM K (tMake C (FSpec K (RI C P)) [] E t) es es' (.obj C fs) := fun F G H σ s Q q =>
  ha F G H σ s _ fun vs G1 H1 s1 g1 r1 => by
    obtain ⟨ws, e, k⟩ := ev_make (E := E) (ea_slots (K := K) (ds := ds)) hP _ G1 H1 _ (stt_data s1.rem.1 s1.g s1.rem.2 r1) Q fun v G2 H2 s2 g2 r2 => q v G2 H2 (s1.after s2.f s2.g s2.dj g2) (g1.trans g2) r2
    obtain rfl := map_some_inj e
    exact k
end
end DL

/-! Dl29: starred items, tuple.index, extend by a tuple, isascii, isdigit -/
namespace DL
open PySem L2 PySem.Spec PyProof.Rows
def starC {α : Type} (xs : List α) : Option (List α) := if xs.length ≤ 100000 then some xs else none
section
variable {K : PySem.W.Frag} {es es' : List Sl} {te : TE} {t : TA} {ds xs : List Dt}
theorem ea_starT0 (h : Ev K te es (.tup xs)) (hr : EvA K t es ds) : EvA K (StX.tStar K te t) es (xs ++ ds) := fun F G H σ s Q q =>
  h F G H σ s _ fun x G1 H1 s1 g1 r1 => by
    cases r1 with
    | tup h1 q1 => exact ⟨_, _, rfl, .inl (sqT_mono s1.g h1), hr F G1 H1 σ s1 _ fun ys G2 H2 s2 g2 r2 => q _ G2 H2 s2 (g1.trans g2) ((q1.mono g2).append r2)⟩
theorem ea_starL0 (h : Ev K te es (.lst xs)) (hr : EvA K t es ds) : EvA K (StX.tStar K te t) es (xs ++ ds) := fun F G H σ s Q q =>
  h F G H σ s _ fun x G1 H1 s1 g1 r1 => by
    cases r1 with
    | lst h1 q1 => exact ⟨_, _, rfl, .inr (s1.g.seq h1), hr F G1 H1 σ s1 _ fun ys G2 H2 s2 g2 r2 => q _ G2 H2 s2 (g1.trans g2) ((q1.mono g2).append r2)⟩
variable {α : Type} {em : α → Dt} {a : α} {as bs : List α}
theorem ea_nilM : EvA K tNil es (([] : List α).map em) := ea_nil
theorem ea_consM (ha : Ev K te es (em a)) (hr : EvA K t es (as.map em)) : EvA K (tCons te t) es ((a :: as).map em) := ea_cons ha hr
theorem ea_starT (h : Ev K te es (.tup (as.map em))) (hr : EvA K t es (bs.map em)) : EvA K (StX.tStar K te t) es ((as ++ bs).map em) := by
  rw [List.map_append]
  exact ea_starT0 h hr
theorem ea_starL (h : Ev K te es (.lst (as.map em))) (hr : EvA K t es (bs.map em)) : EvA K (StX.tStar K te t) es ((as ++ bs).map em) := by
  rw [List.map_append]
  exact ea_starL0 h hr
theorem el_starC {ys : List α} (h : EvA K t es (as.map em)) (e : starC as = some ys) : EvL K (tLst t) es (ys.map em) := by
  obtain ⟨hl, rfl⟩ := ite_some e
  exact el_lst h (by rw [List.length_map]; exact hl)
end
/-! ### list.extend(a tuple) -/
theorem list_extend_tuple (l : Addr) (items : Array Value) (n : Nat) (b : Addr) (items2 : Array Value) (n2 : Nat) (dd : Option Addr) (sl : Array (Option Value)) (hs0 : ¬(!items.isEmpty && Builtin.List.listTooLong (items.size + items2.size)) = true) (hs1 : items.size ≤ sizeLine) (hs2 : items.size + items2.size ≤ sizeLine + 1) :
    Meets (Builtin.«list.extend» ⟨[.ref l, .ref b], []⟩) (fun _ R s => s.heap.get? l = some { cls := .type "list", dict := none, data := .seq items n, slots := #[] } ∧ s.heap.get? b = some { cls := .type "tuple", dict := dd, data := .seq items2 n2, slots := sl } ∧ R (.ok (.ret Value.none)) { s with heap := s.heap.update l (Obj.mapSeq fun x => x ++ items2), toks := s.toks }) :=
  .of_wp fun prog w A R s h => by
    obtain ⟨hp, g, d, tk, os⟩ := s; obtain ⟨hl, hb, h⟩ := h; have f1 := PySem.AutoSeq1.idx_int; have f2 := PySem.AutoSeq1.sub_tuple_tuple; have f3 := PySem.AutoSeq1.sub_list_list; have f4 := PySem.AutoSeq1.sub_tuple_list; have f5 := PySem.AutoSeq1.sub_list_tuple;
    have hz' : (items ++ items2).size ≤ sizeLine + 1 := by rw [Array.size_append]; exact hs2
    wp_walk using (wpAny_updateSeq hl rfl (hz := hs1) (_hz' := hz')), PySem.AutoSeq1.wpAny_loadPart' hl, PySem.AutoSeq1.wpAny_loadPart' hb; exact ⟨_, rfl, h⟩
section
variable {X : Cx}
def rExtendT (K : PySem.W.Frag) : V → List V → Hp → VK → Prop := fun x vs H Q => ∃ l b xs zs, x = .ref l ∧ vs = [.ref b] ∧ H l = some (.lst xs) ∧ SqT K H b zs ∧ xs.length + zs.length ≤ sizeLine ∧ Q .non (upd H l (.lst (xs ++ zs)))
theorem mt_extendT : MtM X "list.extend" (rExtendT X.K) := by
  intro pins s σ H x vs v us Q I rx rv h
  obtain ⟨l, b, xs, zs, rfl, rfl, hH, hB, hz, q⟩ := h
  cases rx
  obtain ⟨u, rfl, ru⟩ := rv.one
  cases ru
  obtain ⟨z, its, n, r, hl, e⟩ := I.lstM hH
  obtain ⟨its2, r2, pl, z2⟩ := I.tuple hB
  obtain ⟨⟨cls, dd, dt, sl⟩, ho, hc, n2, hd⟩ := pl
  simp only at hc hd
  subst hc
  subst hd
  have hl2 := r2.length
  have hsz : its.toArray.size + its2.toArray.size ≤ sizeLine := by rw [List.size_toArray, List.size_toArray]; omega
  have hlong : ¬ (!its.toArray.isEmpty && Builtin.List.listTooLong (its.toArray.size + its2.toArray.size)) = true := by
    rw [notLongL hsz, Bool.and_false]
    exact Bool.false_ne_true
  refine call_meets PySem.F.slot_list_extend ⟨_, e, rfl⟩ PySem.F.entry_list_extend (PySem.F.args_list_extend_2 _ _)
    (list_extend_tuple l its.toArray n b its2.toArray n2 dd sl hlong (by rw [List.size_toArray]; omega) (by omega)) ⟨e, ho, ?_⟩
  refine ⟨.non, _, I.lset (its' := its ++ its2) hH e (by simp) (r.append r2) ?_, rfl, q⟩
  rw [List.length_append]
  omega
/-! ### the place of a text in a tuple of texts; isascii, isdigit -/
def findS (z : Str) : List Str → Nat → Option Nat
  | [], _ => none
  | y :: ys, k => if y = z then some k else findS z ys (k + 1)
def idxC (ys : List Str) (z : Str) : Option Int := (findS z ys 0).map fun k => (k : Int)
theorem findS_at {z : Str} : ∀ {ys : List Str} {k j : Nat}, findS z ys k = some j → ∃ i, j = k + i ∧ ys[i]? = some z ∧ ∀ m, m < i → ys[m]? ≠ some z
  | [], _, _, h => by cases h
  | y :: ys, k, j, h => by
    unfold findS at h
    split at h
    · rename_i e
      cases h
      exact ⟨0, rfl, by rw [e]; rfl, fun m hm => absurd hm (Nat.not_lt_zero _)⟩
    · rename_i e
      obtain ⟨i, e1, e2, e3⟩ := findS_at h
      refine ⟨i + 1, by omega, e2, fun m hm => ?_⟩
      cases m with
      | zero => exact fun q => e (Option.some.inj q)
      | succ m => exact e3 m (by omega)
abbrev rTupIdx (K : PySem.W.Frag) : V → List V → Hp → VK → Prop := fun x xs H Q => ∃ p, ∃ ys : List Str, ∃ z j, x = .ref p ∧ xs = [.str z] ∧ SqT K H p (ys.map V.str) ∧ ys[j]? = some z ∧ (∀ m, m < j → ys[m]? ≠ some z) ∧ Q (.int (j : Nat)) H
abbrev rIsC (g : Str → Bool) : V → List V → Hp → VK → Prop := fun x xs H Q => ∃ a, x = .str a ∧ xs = [] ∧ True ∧ Q (.bl (g a)) H
end
theorem strs_ofR {K : PySem.W.Frag} {G : Hp} : ∀ {ys : List Str} {xs : List V}, Reps K G xs (ys.map Dt.str) → xs = ys.map V.str
  | [], _, .nil => rfl
  | y :: ys, _, .cons (.str _) r => by rw [strs_ofR r]; rfl
section
variable {K : PySem.W.Frag} {es es' : List Sl} {te to : TE} {z : Str} {ys : List Str} {i : Int}
theorem ev_tupIdx {a : Addr} (ho : ∀ G, Rep K G (.ref a) (.tup (ys.map Dt.str))) (hd : ∃ o, K.lookup a = some o ∧ o.cls = .type "tuple" ∧ o.dict = none) (he : Ev K te es (.str z)) (h : idxC ys z = some i) : Ev K (tBM K "tuple" (rTupIdx K) (tC (.ref a)) (tCons te tNil)) es (.int i) := fun F G H σ s Q q => by
  cases ho G with
  | @tup _ xs _ h1 q1 =>
    have e := strs_ofR q1
    subst e
    refine ⟨.inr (.inl ⟨rfl, hd⟩), he F G H σ s _ fun y G2 H2 s2 g2 r2 => ?_⟩
    cases r2
    unfold idxC at h
    cases hf : findS z ys 0 with
    | none => rw [hf] at h; cases h
    | some j =>
      rw [hf] at h
      cases h
      obtain ⟨k, e1, e2, e3⟩ := findS_at hf
      obtain rfl : j = k := by omega
      exact ⟨a, ys, z, j, rfl, rfl, sqT_mono (g2.trans s2.g) h1, e2, e3, q _ G2 H2 s2 g2 (.int _)⟩
theorem ev_isC {g : Str → Bool} (ho : Ev K to es (.str z)) : Ev K (tM0 (rIsC g) to) es (.bl (g z)) := fun F G H σ s Q q =>
  ho F G H σ s _ fun x G1 H1 s1 g1 r1 => by
    cases r1
    exact ⟨⟨_, rfl⟩, _, rfl, rfl, trivial, q _ G1 H1 s1 g1 (.bl _)⟩
variable {ρ : Type} {tz : TS} {m : Option ρ} {oc : ρ → Res}
/-- own.extend(a tuple) -/
theorem sm_extT {α : Type} {em : α → Dt} {xs ys zs : List α} {i : Nat} {a : Option Addr} (hi : es[i]? = some (.own a (xs.map em))) (h : Ev K te es (.tup (ys.map em))) (hy : catC xs ys = some zs) (he : es.set i (.own a (zs.map em)) = es') (k : SM K tz es' m oc) :
    SM K (tSeq (tDrop (tBM K "list" (rExtendT K) (tVar i) (tCons te tNil))) tz) es m oc := fun r e F G H σ D s q => by
  obtain ⟨hl, rfl⟩ := ite_some hy
  obtain ⟨o, ho, p, vs, eo, g, f, hp, rr, an⟩ := s.sl i _ hi
  subst eo
  refine ⟨.ref p, ho, .inl ⟨rfl, vs, .inl (.inl hp)⟩, ?_⟩
  refine h F G H σ s _ fun x2 G1 H1 s1 g1 r1 => ?_
  cases r1 with
  | @tup p2 vs2 _ h2 r1 =>
    obtain ⟨o, ho', p', vs', eo, g', f', hp', rr', an'⟩ := s1.sl i _ hi
    subst eo
    rw [ho] at ho'
    cases ho'
    have hlen := rr'.length
    have hlen2 := r1.length
    rw [List.length_map] at hlen hlen2
    refine ⟨p, p2, vs', vs2, rfl, rfl, hp', sqT_mono s1.g h2, ?_, ?_⟩
    · rw [hlen, hlen2]
      exact Nat.le_trans hl (by decide)
    have w := s1.write (t' := .own a ((xs ++ ys).map em)) hi rfl rfl ho ⟨p, vs' ++ vs2, rfl, g', f', upd_same, by rw [List.map_append]; exact rr'.append r1, an'⟩ g' f'
    exact k r e F G1 _ σ D (he ▸ w) (q.up g1)
end
end DL
namespace Hd
open PySem
theorem ptup_ok {K : PySem.W.Frag} {a : Addr} (h : ptupB K a = true) : ∃ o, K.lookup a = some o ∧ o.cls = .type "tuple" ∧ o.dict = none := by
  unfold ptupB at h
  cases q : K.lookup a with
  | none =>
    rw [q] at h
    cases h
  | some o =>
    obtain ⟨oc, od, dt, osl⟩ := o
    rw [q] at h
    cases oc with
    | type c =>
      cases od with
      | none => exact ⟨_, rfl, congrArg Value.type (of_decide_eq_true h), rfl⟩
      | some _ => cases h
    | _ => cases h
end Hd

/-! Dl30: names set from a list; a try whose body never raises -/
namespace L2
open PySem PySem.Spec PyProof.Rows
section
variable {X : Cx} {body : List Stmt} {h₀ : ExceptHandler} {hds : List ExceptHandler} {pos : Pos} {tb : WX → TS}
/-- try: body / except ..: the body raises nothing -/
theorem ps_try0 (hs : X.stack = X.env :: X.outer) (hf : X.env.frame = some X.env.locals) (hN : X.N.Nodup)
    (hb : ∀ (W : WX) (pn : List (Addr × Obj)) (xe : Value → Shared → Prop), Takes (X.tr pn xe) W → PassesOwn (model X.prog X.w) X.A X.env xe → PSs (X.tr pn xe) body (tb W)) :
    PS X (.Try body (h₀ :: hds) [] [] pos) (tb (fun _ _ _ _ => False)) := by
  refine ⟨fun pins s σ H D I h => wpAny_Try_except ?_⟩
  have ok := I.ok
  let E1 : Value → Shared → Prop := fun e s₁ => wpAny (model X.prog X.w) X.A (noteFrame e X.env) (fun _ s₂ => wpAny (model X.prog X.w) X.A (setFlight e none) (fun _ s₃ => wpAny (model X.prog X.w) X.A (handleBy e X.env (h₀ :: hds)) (SP X pins D) X.xe s₃) X.xe s₂) X.xe s₁
  have tk : Takes (X.tr (X.pn ++ pins) E1) (fun _ _ _ _ => False) := by
    rintro u s' ⟨a, B, sI, pins', τ, G, cls, d, rfl, J', nb, up, sky, na, os, ag, w⟩
    exact w.elim
  refine wpAny_mono ((hb _ (X.pn ++ pins) E1 tk PassesOwn.looking).run [] s σ H D (I.toTry _) h) (fun f s1 sp => ?_) (fun e s1 he => he)
  cases f with
  | next => obtain ⟨τ, G, J, q⟩ := sp; exact wpAny_execs_nil ⟨τ, G, J.ofTry ok, q⟩
  | brk => obtain ⟨τ, G, J, q⟩ := sp; exact ⟨τ, G, J.ofTry ok, q⟩
  | cont => obtain ⟨τ, G, J, q⟩ := sp; exact ⟨τ, G, J.ofTry ok, q⟩
  | ret u => obtain ⟨v, τ, G, J, r, q⟩ := sp; exact ⟨v, τ, G, J.ofTry ok, r, q⟩
end
end L2
namespace DL
open PySem L2
section
variable {K : PySem.W.Frag} {es : List Sl} {te : TE}
theorem eg_lst {n : Nat} {g : TGs} {vs : List Nat} {ds : List Dt} {es' : List Sl} (h : EvGs K g vs es ds es') (hn : ds.length = n) : EvG K (gLst K n g) vs es (.lst ds) es' := fun F G H σ v s r Q q => by
  cases r with
  | lst hs rr =>
    exact ⟨_, _, rfl, s.g.seq hs, by rw [rr.length]; exact hn, h F G H σ _ s rr Q q⟩
variable {α : Type} {em : α → Dt} {xs : List α}
def un7C : List α → Option (α × α × α × α × α × α × α)
  | [a, b, c, d, e, f, g] => some (a, b, c, d, e, f, g)
  | _ => none
theorem un7_eq {y : α × α × α × α × α × α × α} (h : un7C xs = some y) : xs = [y.1, y.2.1, y.2.2.1, y.2.2.2.1, y.2.2.2.2.1, y.2.2.2.2.2.1, y.2.2.2.2.2.2] := by
  unfold un7C at h
  split at h
  · cases h; rfl
  · cases h
theorem gl_eq {α β : Type} {u : Sum α β} {a : α} (h : Sum.getLeft? u = some a) : u = .inl a := by
  cases u with
  | inl x => cases h; rfl
  | inr x => cases h
theorem ev_un7 {y : α × α × α × α × α × α × α} (h : un7C xs = some y) (he : Ev K te es (.lst (xs.map em))) : Ev K te es (dF7 em em em em em em em y) := by
  have e : Dt.lst (xs.map em) = dF7 em em em em em em em y := by rw [un7_eq h]; rfl
  exact e ▸ he
end
end DL

/-! Dl31: methods that write to their object and may raise; expressions that write, and raise behind -/
namespace DL
open PySem L2
def XO (C : Addr) (P : List (Str × Dt) → List Dt → Addr → Str → Prop) : List Sl → Addr → Str → Prop := fun ss c f => ∃ p fs ds, ss = .obo (some p) C fs :: ds.map .d ∧ P fs ds c f
section
open PyProof.Rows
variable {P : Program} {w : World} {K : PySem.W.Frag} {mg : Str → Option Value} {base : Heap}
theorem fnx_O {x qual : Str} {st : Stmt} {f : Addr} {fd : FuncData} {N ps : List Str} {k : Nat} {C : Addr} {R : List (Str × Dt) → List Dt → Addr → Str → Prop} (F : Fun K x qual st f fd) (S : FnScope N ps (defScope st)) (hl : ∀ fs ds c g, R fs ds c g → ds.length + 1 = ps.length)
    (body : ∀ (cdv : Value) (A : Around) (outer : List Env) (s : Shared) (H : Hp) (E : XK), Room k (A.deeper (PyProof.Rows.envOfC qual (defScope st) s.heap.objs.size f cdv)) →
      ∃ t, PSs (cxOf (L2.CX P w) P w K mg base N qual (defScope st) f cdv A outer s H E) (defBody st) t ∧ ∀ p fs ds c g, R fs ds c g → SEvX K t E (.obo (some p) C fs :: ds.map .d ++ List.replicate (N.length - ps.length) .un) c g) :
    FnOk P w K mg base (L2.CX P w) (k + 1) f fd ps (FSpecX K (XO C R)) := by
  refine F.okX S (fun vs H Q E h => ?_) (fun cdv A outer s H vs Q E hr h => ?_)
  · obtain ⟨F, G, ss, c, g, s, ⟨p, fs, ds, rfl, hR⟩, _⟩ := h
    have := s.len
    rw [List.length_map, List.length_cons, List.length_map, hl fs ds c g hR] at this
    exact this
  · obtain ⟨t, ht, hb⟩ := body cdv A outer s H E hr
    refine ⟨t, ht, ?_⟩
    obtain ⟨F1, G, ss, c, g, st1, ⟨p, fs, ds, rfl, hR⟩, q⟩ := h
    exact hb p fs ds c g hR F1 G H _ _ (stt_start st1 (by rw [List.length_cons, List.length_map, hl fs ds c g hR])) q
theorem passX {CX : CXT} {X : Cx} {E : XK} (h : ∀ σ, PassesAt CX X σ E) : Passes CX X E := fun pins σ H s e s' I c => h σ pins H s e s' I c
end
section
variable {K : PySem.W.Frag} {E : XK} {es es1 es2 es' : List Sl} {c : Addr} {f : Str} {te ta : TE} {t : TA} {a d : Dt} {ds : List Dt} {us us0 gs : List (Str × Dt)} {C : Addr}
/-- an expression raises, whatever it wrote before -/
def XvG (K : PySem.W.Frag) (te : TE) (E : XK) (es : List Sl) (c : Addr) (f : Str) : Prop := ∀ F G H σ, Stt K F G H σ es → GoodX F G E c f → ∀ Q : VK, te σ H Q
def XvGA (K : PySem.W.Frag) (ta : TA) (E : XK) (es : List Sl) (c : Addr) (f : Str) : Prop := ∀ F G H σ, Stt K F G H σ es → GoodX F G E c f → ∀ Q : List V → Hp → Prop, ta σ H Q
theorem xg_of {tc : (L2.St → XK) → TE} {E' : L2.St → XK} (hE : E' = fun _ => E) (h : XvE K tc es c f) : XvG K (tc E') E es c f := fun F G H σ s q Q => by
  subst hE
  exact h F G H σ s Q _ fun dd G' H' s' g' h1 f1 n1 => q dd G' H' s'.f s'.g s'.dj g' h1 f1 n1
theorem xga_hd (h : XvG K te E es c f) : XvGA K (tCons te t) E es c f := fun F G H σ s q Q => h F G H σ s q _
theorem xga_tl (ha : EvM K te es es1 a) (h : XvGA K t E es1 c f) : XvGA K (tCons te t) E es c f := fun F G H σ s q Q =>
  ha F G H σ s _ fun v G1 H1 s1 g1 r1 => h F G1 H1 σ s1 (q.up g1) _
theorem xg_tup (h : XvGA K t E es c f) : XvG K (tTup t) E es c f := fun F G H σ s q Q => h F G H σ s q _
/-- the call itself, the object at p0 -/
theorem raisedO {P : List (Str × Dt) → List Dt → Addr → Str → Prop} {i : Nat} {a : Option Addr} {F G H1 : Hp} {σ : L2.St} {p : Addr} {vs : List V} {Q : VK} (s1 : Stt K F G H1 σ es1) (ho : σ[i]? = some (some (.ref p))) (hi : es1[i]? = some (.obo a C us)) (hP : P us ds c f) (r1 : Reps K G vs ds) (q : GoodX F G E c f) : FSpecX K (XO C P) (.ref p :: vs) H1 Q E := by
  obtain ⟨o1, ho1, p1, dx1, ws, e1, gp, fp, hp, rr, an⟩ := s1.sl i _ hi
  subst e1
  rw [ho] at ho1
  obtain rfl : p = p1 := by cases ho1; rfl
  have pp : remP G H1 p p = none := by
    unfold remP
    rw [if_pos rfl]
  refine ⟨remP G H1 p, G, .obo (some p) C us :: ds.map .d, c, f, obo_data (fun x o e => (remP_some e).2.1) s1.g (fun x o e => (remP_some e).2.2) gp pp hp rr r1, ⟨p, us, ds, rfl, hP⟩, fun dd G2 H2 a1 a2 a3 a4 a5 a6 a7 => ?_⟩
  have up : ∀ x o, F x = some o → remP G H1 p x = some o := fun x o e => by
    have ne : x ≠ p := by rintro rfl; rw [fp] at e; cases e
    rw [remP_of ne (s1.dj x o e)]
    exact s1.f x o e
  refine q dd G2 H2 (fun x o e => a1 x o (up x o e)) a2 (fun x o e => a3 x o (up x o e)) a4 a5 ?_ a7
  cases qf : F dd with
  | none => rfl
  | some o => rw [up dd o qf] at a6; cases a6
theorem xg_meth {P : List (Str × Dt) → List Dt → Addr → Str → Prop} {sp : Sp} {i : Nat} {a a0 : Option Addr} {m : Str} (hi0 : es[i]? = some (.obo a0 C us0)) (hm : us0.lookup m = none) (ha : EvMA K t es es1 ds) (hi : es1[i]? = some (.obo a C us)) (hP : P us ds c f) :
    XvG K (tMeth C m (spOr sp (FSpecX K (XO C P))) [] E (tVar i) t) E es c f := fun F G H σ s q Q => by
  obtain ⟨o0, ho0, p0, dx0, ws0, e0, g0, f0, h0, r0, an0⟩ := s.sl i _ hi0
  subst e0
  refine ⟨_, ho0, p0, dx0, ws0, rfl, h0, r0.lookup_none hm, ha F G H σ s _ fun vs G1 H1 s1 g1 r1 => ?_⟩
  rw [List.append_nil]
  exact .inr (raisedO s1 ho0 hi hP r1 (q.up g1))
/-- own.m(..), which might have raised -/
theorem evm_methOX {P : List (Str × Dt) → List Dt → Dt → List (Str × Dt) → Prop} {sp : Sp} {i : Nat} {a a0 : Option Addr} {m : Str} (hi0 : es[i]? = some (.obo a0 C us0)) (hm : us0.lookup m = none) (ha : EvMA K t es es1 ds) (hi : es1[i]? = some (.obo a C us)) (hP : P us ds d gs) (he : es1.set i (.obo a C gs) = es') :
    EvM K (tMeth C m (spOr (FSpec K (RMo C P)) sp) [] E (tVar i) t) es es' d := fun F G H σ s Q q => by
  obtain ⟨o0, ho0, p0, dx0, ws0, e0, g0, f0, h0, r0, an0⟩ := s.sl i _ hi0
  subst e0
  refine ⟨_, ho0, p0, dx0, ws0, rfl, h0, r0.lookup_none hm, ha F G H σ s _ fun vs G1 H1 s1 g1 r1 => ?_⟩
  rw [List.append_nil]
  exact .inl (calledO s1 ho0 hi hP he r1 g1 q)
variable {tz : TS} {m x : Option Str} {ρ : Type} {oc : ρ → Res} {n : Option ρ}
theorem smx_asgE {g : TG} (hx : ∀ f, x = some f → XvG K te E es c f) : SMX K (tSeq (tAsg te g) tz) E es c x := fun f e F G H σ D s q => hx f e F G H σ s q _
theorem smx_dropE (hx : ∀ f, x = some f → XvG K te E es c f) : SMX K (tSeq (tDrop te) tz) E es c x := fun f e F G H σ D s q => hx f e F G H σ s q _
/-- it raises, or all goes on -/
theorem smx_or {t : TS} (h1 : SMX K t E es c x) (h2 : x = none → SMX K t E es c m) : SMX K t E es c (tryX x some m) := fun f e => by
  cases x with
  | none => exact h2 rfl f e
  | some g => exact h1 f e
theorem smx_setM {i : Nat} (h : EvM K te es es1 d) (he : es1.set i (.d d) = es') (k : SMX K tz E es' c m) : SMX K (tSeq (tAsg te (gName i)) tz) E es c m := fun r e F G H σ D s q =>
  h F G H σ s _ fun v G1 H1 s1 g1 r1 => k r e F G1 H1 _ D (he ▸ s1.set r1) (q.up g1)
theorem smx_dropM (h : EvM K te es es1 d) (k : SMX K tz E es1 c m) : SMX K (tSeq (tDrop te) tz) E es c m := fun r e F G H σ D s q =>
  h F G H σ s _ fun v G1 H1 s1 g1 r1 => k r e F G1 H1 _ D s1 (q.up g1)
theorem smx_ownO {i : Nat} {fs : List (Str × Dt)} (h : EvOb K te es C fs) (he : es.set i (.obo none C fs) = es') (k : SMX K tz E es' c m) : SMX K (tSeq (tAsg te (gName i)) tz) E es c m := fun r e F G H σ D s q =>
  h F G H σ s _ fun p dx vs G1 H1 s1 hF g1 r1 => k r e F G1 H1 _ D (he ▸ s1.takeO hF r1) (q.up g1)
end
end DL

/-! Dl32: exceptions without fields: what raises them, calls that may raise them, a try that catches one -/
namespace L2
open PySem PySem.Spec PyProof.Rows
/-- an own class of exceptions without own __init__ -/
structure ExcP (K : PySem.W.Frag) (mg : Str → Option Value) (x : Str) (C : Addr) : Prop where
  g : mg x = some (.ref C)
  q : PySem.W.excIn K C [.type "ValueError", .type "Exception", .type "BaseException", .type "object"] "ValueError.__new__" = true
  k : PySem.W.keepIn K (.ref C) = true
  s : PySem.W.subIn K (.ref C) (.type "BaseException") = some true
  t : PySem.W.typeIn K (.ref C) = some (.type "type")
theorem ps_raiseP {X : Cx} {W : WX} {x m : Str} {C : Addr} {j : Nat} {p p2 pos pos' : Pos} (hc : X.calm = true) (tk : Takes X W) (T : ExcP X.K X.mg x C) (hg : Gl X x) (hdb : (x == ("__debug__" : Str)) = false := by decide) :
    PS X (.Raise (some (.Call (.Name x p) [.Constant (.str m) j p2] [] pos)) none pos') (fun _ σ H => W (.ref C) none σ H) := ps_raise hc tk (pmk_own PySem.F.excBase_ValueError T.q T.g T.k (raises_own T.s T.t) hg hdb)
end L2
namespace DL
open PySem L2
def tRaiseP (W : WX) (C : Addr) : TS := fun _ σ H => W (.ref C) none σ H
def GoodZ (F G : Hp) (E : XK) (c : Addr) : Prop := ∀ G' H', Same F H' → Same G' H' → (∀ a o, F a = some o → G' a = none) → Same G G' → E (.ref c) none H'
theorem GoodZ.up {F G G1 : Hp} {E : XK} {c : Addr} (h : GoodZ F G E c) (g : Same G G1) : GoodZ F G1 E c := fun G' H' a b d e => h G' H' a b d (g.trans e)
def SEvZ (K : PySem.W.Frag) (t : TS) (E : XK) (es : List Sl) (c : Addr) : Prop := ∀ F G H σ D, Stt K F G H σ es → GoodZ F G E c → t D σ H
def SMZ (K : PySem.W.Frag) (t : TS) (E : XK) (es : List Sl) (c : Addr) (m : Option Str) : Prop := ∀ f, m = some f → SEvZ K t E es c
def XvZ (K : PySem.W.Frag) (te : TE) (E : XK) (es : List Sl) (c : Addr) : Prop := ∀ F G H σ, Stt K F G H σ es → GoodZ F G E c → ∀ Q : VK, te σ H Q
def XvZA (K : PySem.W.Frag) (ta : TA) (E : XK) (es : List Sl) (c : Addr) : Prop := ∀ F G H σ, Stt K F G H σ es → GoodZ F G E c → ∀ Q : List V → Hp → Prop, ta σ H Q
def FSpecZ (K : PySem.W.Frag) (R : List Sl → Addr → Prop) : Sp := fun vs H _ E => ∃ F G ss c, Stt K F G H (vs.map some) ss ∧ R ss c ∧ GoodZ F G E c
def ZD (P : List Dt → Addr → Prop) : List Sl → Addr → Prop := fun ss c => ∃ ds, ss = ds.map .d ∧ P ds c
def ZI (C : Addr) (P : List Dt → Addr → Prop) : List Sl → Addr → Prop := fun ss c => ∃ p ds, ss = .obo (some p) C [] :: ds.map .d ∧ P ds c
def ZO (C : Addr) (P : List (Str × Dt) → List Dt → Addr → Prop) : List Sl → Addr → Prop := fun ss c => ∃ p fs ds, ss = .obo (some p) C fs :: ds.map .d ∧ P fs ds c
section
open PyProof.Rows
variable {P : Program} {w : World} {K : PySem.W.Frag} {mg : Str → Option Value} {base : Heap}
theorem fnz_D {x qual : Str} {st : Stmt} {f : Addr} {fd : FuncData} {N ps : List Str} {k : Nat} {R : List Dt → Addr → Prop} (F : Fun K x qual st f fd) (S : FnScope N ps (defScope st)) (hl : ∀ ds c, R ds c → ds.length = ps.length)
    (body : ∀ (cdv : Value) (A : Around) (outer : List Env) (s : Shared) (H : Hp) (E : XK), Room k (A.deeper (PyProof.Rows.envOfC qual (defScope st) s.heap.objs.size f cdv)) →
      ∃ t, PSs (cxOf (L2.CX P w) P w K mg base N qual (defScope st) f cdv A outer s H E) (defBody st) t ∧ ∀ ds c, R ds c → SEvZ K t E (ds.map .d ++ List.replicate (N.length - ps.length) .un) c) :
    FnOk P w K mg base (L2.CX P w) (k + 1) f fd ps (FSpecZ K (ZD R)) := by
  refine F.okX S (fun vs H Q E h => ?_) (fun cdv A outer s H vs Q E hr h => ?_)
  · obtain ⟨F, G, ss, c, s, ⟨ds, rfl, hR⟩, _⟩ := h
    have := s.len
    rw [List.length_map, List.length_map, hl ds c hR] at this
    exact this
  · obtain ⟨t, ht, hb⟩ := body cdv A outer s H E hr
    refine ⟨t, ht, ?_⟩
    obtain ⟨F1, G, ss, c, st1, ⟨ds, rfl, hR⟩, q⟩ := h
    exact hb ds c hR F1 G H _ _ (stt_start st1 (by rw [List.length_map, hl ds c hR])) q
theorem fnz_I {x qual : Str} {st : Stmt} {f : Addr} {fd : FuncData} {N ps : List Str} {k : Nat} {C : Addr} {R : List Dt → Addr → Prop} (F : Fun K x qual st f fd) (S : FnScope N ps (defScope st)) (hl : ∀ ds c, R ds c → ds.length + 1 = ps.length)
    (body : ∀ (cdv : Value) (A : Around) (outer : List Env) (s : Shared) (H : Hp) (E : XK), Room k (A.deeper (PyProof.Rows.envOfC qual (defScope st) s.heap.objs.size f cdv)) →
      ∃ t, PSs (cxOf (L2.CX P w) P w K mg base N qual (defScope st) f cdv A outer s H E) (defBody st) t ∧ ∀ p ds c, R ds c → SEvZ K t E (.obo (some p) C [] :: ds.map .d ++ List.replicate (N.length - ps.length) .un) c) :
    FnOk P w K mg base (L2.CX P w) (k + 1) f fd ps (FSpecZ K (ZI C R)) := by
  refine F.okX S (fun vs H Q E h => ?_) (fun cdv A outer s H vs Q E hr h => ?_)
  · obtain ⟨F, G, ss, c, s, ⟨p, ds, rfl, hR⟩, _⟩ := h
    have := s.len
    rw [List.length_map, List.length_cons, List.length_map, hl ds c hR] at this
    exact this
  · obtain ⟨t, ht, hb⟩ := body cdv A outer s H E hr
    refine ⟨t, ht, ?_⟩
    obtain ⟨F1, G, ss, c, st1, ⟨p, ds, rfl, hR⟩, q⟩ := h
    exact hb p ds c hR F1 G H _ _ (stt_start st1 (by rw [List.length_cons, List.length_map, hl ds c hR])) q
theorem fnz_O {x qual : Str} {st : Stmt} {f : Addr} {fd : FuncData} {N ps : List Str} {k : Nat} {C : Addr} {R : List (Str × Dt) → List Dt → Addr → Prop} (F : Fun K x qual st f fd) (S : FnScope N ps (defScope st)) (hl : ∀ fs ds c, R fs ds c → ds.length + 1 = ps.length)
    (body : ∀ (cdv : Value) (A : Around) (outer : List Env) (s : Shared) (H : Hp) (E : XK), Room k (A.deeper (PyProof.Rows.envOfC qual (defScope st) s.heap.objs.size f cdv)) →
      ∃ t, PSs (cxOf (L2.CX P w) P w K mg base N qual (defScope st) f cdv A outer s H E) (defBody st) t ∧ ∀ p fs ds c, R fs ds c → SEvZ K t E (.obo (some p) C fs :: ds.map .d ++ List.replicate (N.length - ps.length) .un) c) :
    FnOk P w K mg base (L2.CX P w) (k + 1) f fd ps (FSpecZ K (ZO C R)) := by
  refine F.okX S (fun vs H Q E h => ?_) (fun cdv A outer s H vs Q E hr h => ?_)
  · obtain ⟨F, G, ss, c, s, ⟨p, fs, ds, rfl, hR⟩, _⟩ := h
    have := s.len
    rw [List.length_map, List.length_cons, List.length_map, hl fs ds c hR] at this
    exact this
  · obtain ⟨t, ht, hb⟩ := body cdv A outer s H E hr
    refine ⟨t, ht, ?_⟩
    obtain ⟨F1, G, ss, c, st1, ⟨p, fs, ds, rfl, hR⟩, q⟩ := h
    exact hb p fs ds c hR F1 G H _ _ (stt_start st1 (by rw [List.length_cons, List.length_map, hl fs ds c hR])) q
end
section
variable {K : PySem.W.Frag} {E : XK} {es es1 es2 es' fs : List Sl} {c C : Addr} {t u tz : TS} {te : TE} {ta : TA} {tt : TT} {m x p q : Option Str} {a d : Dt} {ds : List Dt} {us us0 gs : List (Str × Dt)}
theorem smz_run {g : Str} (h : m = some g) (k : SMZ K t E es c m) : SEvZ K t E es c := k g h
theorem smz_none : SMZ K t E es c none := fun f e => by cases e
theorem smz_bind {α : Type} {m1 : Option α} {f : α → Option Str} (h : ∀ x, m1 = some x → SMZ K t E es c (f x)) : SMZ K t E es c (m1.bind f) := fun r e => by
  cases q : m1 with
  | none => rw [q] at e; cases e
  | some x => rw [q] at e; exact h x q r e
theorem smz_lt {α : Type} {e : α} {f : α → Option Str} (h : ∀ x, e = x → SMZ K t E es c (f x)) : SMZ K t E es c (lt e f) := h e rfl
theorem smz_one (h : SMZ K (tSeq t tNext) E es c m) : SMZ K t E es c m := h
theorem smz_as {v : TS} (h : SMZ K (tSeq t (tSeq u v)) E es c m) : SMZ K (tSeq (tSeq t u) v) E es c m := h
theorem smz_nil (h : SMZ K tz E es c m) : SMZ K (tSeq tNext tz) E es c m := h
theorem smz_es (e : es = es') (h : SMZ K t E es' c m) : SMZ K t E es c m := e ▸ h
theorem smz_wk {gs : List Sl} (w : Wk es gs) (h : SMZ K t E gs c m) : SMZ K t E es c m := fun r e F G H σ D s q => h r e F G H σ D (s.wk w) q
theorem smz_set {i : Nat} (h : Ev K te es d) (he : es.set i (.d d) = es') (k : SMZ K tz E es' c m) : SMZ K (tSeq (tAsg te (gName i)) tz) E es c m := fun r e F G H σ D s q =>
  h F G H σ s _ fun v G1 H1 s1 g1 r1 => k r e F G1 H1 _ D (he ▸ s1.set r1) (q.up g1)
theorem smz_asgG {g : TG} {vs : List Nat} (h : Ev K te es d) (hg : EvG K g vs es d es') (k : SMZ K tz E es' c m) : SMZ K (tSeq (tAsg te g) tz) E es c m := fun r e F G H σ D s q =>
  h F G H σ s _ fun v G1 H1 s1 g1 r1 => hg F G1 H1 σ v s1 r1 _ fun σ' G2 H2 s2 g2 _ _ => k r e F G2 H2 σ' D s2 (q.up (g1.trans g2))
theorem smz_if {b : Bool} (h : EvT K tt es b) (h1 : b = true → SMZ K (tSeq t tz) E es c p) (h2 : b = false → SMZ K (tSeq u tz) E es c q) : SMZ K (tSeq (tIfS tt t u) tz) E es c (if b = true then p else q) := fun r e F G H σ D s k =>
  h F G H σ s _ fun G1 H1 s1 g1 => by
    cases b with
    | true =>
      show t _ σ H1
      exact h1 rfl r e F G1 H1 σ D s1 (k.up g1)
    | false =>
      show u _ σ H1
      exact h2 rfl r e F G1 H1 σ D s1 (k.up g1)
theorem smz_raise {f : Str} : SMZ K (tSeq (tRaiseP (fun cls d _ H => E cls d H) c) tz) E es c (some f) := fun r e F G H σ D s q => q G H s.f s.g s.dj (Same.refl _)
theorem smz_asgE {g : TG} (hx : ∀ f, x = some f → XvZ K te E es c) : SMZ K (tSeq (tAsg te g) tz) E es c x := fun f e F G H σ D s q => hx f e F G H σ s q _
theorem smz_dropE (hx : ∀ f, x = some f → XvZ K te E es c) : SMZ K (tSeq (tDrop te) tz) E es c x := fun f e F G H σ D s q => hx f e F G H σ s q _
theorem smz_retE (hx : ∀ f, x = some f → XvZ K te E es c) : SMZ K (tSeq (tRet te) tz) E es c x := fun f e F G H σ D s q => hx f e F G H σ s q _
theorem smz_or (h1 : SMZ K t E es c x) (h2 : x = none → SMZ K t E es c m) : SMZ K t E es c (tryX x some m) := fun f e => by
  cases x with
  | none => exact h2 rfl f e
  | some g => exact h1 f e
theorem smz_setM {i : Nat} (h : EvM K te es es1 d) (he : es1.set i (.d d) = es') (k : SMZ K tz E es' c m) : SMZ K (tSeq (tAsg te (gName i)) tz) E es c m := fun r e F G H σ D s q =>
  h F G H σ s _ fun v G1 H1 s1 g1 r1 => k r e F G1 H1 _ D (he ▸ s1.set r1) (q.up g1)
theorem smz_fld {i : Nat} {o : Option Addr} {C : Addr} {fs : List (Str × Dt)} {f : Str} (hi : es[i]? = some (.obo o C fs)) (h : Ev K te es d) (hc : Cls K C) (hn : NoAttr K C f) (hl : fs.length < 900) (he : es.set i (.obo o C (putD f d fs)) = es') (k : SMZ K tz E es' c m) : SMZ K (tSeq (sFld K (tVar i) te f) tz) E es c m := fun r e F G H σ D s q => by
  refine h F G H σ s _ fun v G1 H1 s1 g1 r1 => ?_
  obtain ⟨ow, ho, p, dx, vs, eo, g, ff, hp, rr, an⟩ := s1.sl i _ hi
  subst eo
  refine ⟨.ref p, ho, p, C, dx, vs, rfl, hp, hc, hn, by rw [rr.length]; omega, ?_⟩
  exact k r e F G1 _ σ D (he ▸ s1.write hi rfl rfl ho ⟨p, dx, putF f v vs, rfl, g, ff, upd_same, repF_put r1 rr, an⟩ g ff) (q.up g1)
theorem smz_dropM (h : EvM K te es es1 d) (k : SMZ K tz E es1 c m) : SMZ K (tSeq (tDrop te) tz) E es c m := fun r e F G H σ D s q =>
  h F G H σ s _ fun v G1 H1 s1 g1 r1 => k r e F G1 H1 _ D s1 (q.up g1)
theorem smz_ownO {i : Nat} {fs : List (Str × Dt)} (h : EvOb K te es C fs) (he : es.set i (.obo none C fs) = es') (k : SMZ K tz E es' c m) : SMZ K (tSeq (tAsg te (gName i)) tz) E es c m := fun r e F G H σ D s q =>
  h F G H σ s _ fun p dx vs G1 H1 s1 hF g1 r1 => k r e F G1 H1 _ D (he ▸ s1.takeO hF r1) (q.up g1)
/-! expressions -/
theorem xza_hd (h : XvZ K te E es c) : XvZA K (tCons te ta) E es c := fun F G H σ s q Q => h F G H σ s q _
theorem xza_tl (ha : EvM K te es es1 a) (h : XvZA K ta E es1 c) : XvZA K (tCons te ta) E es c := fun F G H σ s q Q =>
  ha F G H σ s _ fun v G1 H1 s1 g1 r1 => h F G1 H1 σ s1 (q.up g1) _
theorem xz_tup (h : XvZA K ta E es c) : XvZ K (tTup ta) E es c := fun F G H σ s q Q => h F G H σ s q _
theorem GoodZ.rem {F G G1 H1 : Hp} {σ : L2.St} (q : GoodZ F G E c) (s1 : Stt K F G1 H1 σ es) (g : Same G G1) : GoodZ (DL.rem G1 H1) G1 E c := fun G' H' a b d e => by
  have s2 := s1.after a b d e
  exact q G' H' s2.f s2.g s2.dj (g.trans e)
theorem xz_call {R : List Dt → Addr → Prop} {sp : Sp} (ha : EvA K ta es ds) (hP : R ds c) : XvZ K (tCall (spOr sp (FSpecZ K (ZD R))) [] E ta) E es c := fun F G H σ s q Q =>
  ha F G H σ s _ fun vs G1 H1 s1 g1 r1 => by
    rw [List.append_nil]
    exact .inr ⟨DL.rem G1 H1, G1, ds.map .d, c, stt_data s1.rem.1 s1.g s1.rem.2 r1, ⟨_, rfl, hP⟩, q.rem s1 g1⟩
theorem ev_callZ {P : List Dt → Dt → Prop} {sp : Sp} (ha : EvA K ta es ds) (hP : P ds d) : Ev K (tCall (spOr (FSpec K (RD P)) sp) [] E ta) es d := fun F G H σ s Q q =>
  ha F G H σ s _ fun vs G1 H1 s1 g1 r1 => by
    rw [List.append_nil]
    exact .inl ⟨DL.rem G1 H1, G1, ds.map .d, d, ds.map .d, stt_data s1.rem.1 s1.g s1.rem.2 r1, ⟨_, rfl, rfl, hP⟩, fun v G2 H2 s2 g2 r2 => q v G2 H2 (s1.after s2.f s2.g s2.dj g2) (g1.trans g2) r2⟩
/-- the call itself, the object at p0 -/
theorem raisedZ {P : List (Str × Dt) → List Dt → Addr → Prop} {i : Nat} {a : Option Addr} {F G H1 : Hp} {σ : L2.St} {p : Addr} {vs : List V} {Q : VK} (s1 : Stt K F G H1 σ es1) (ho : σ[i]? = some (some (.ref p))) (hi : es1[i]? = some (.obo a C us)) (hP : P us ds c) (r1 : Reps K G vs ds) (q : GoodZ F G E c) : FSpecZ K (ZO C P) (.ref p :: vs) H1 Q E := by
  obtain ⟨o1, ho1, p1, dx1, ws, e1, gp, fp, hp, rr, an⟩ := s1.sl i _ hi
  subst e1
  rw [ho] at ho1
  obtain rfl : p = p1 := by cases ho1; rfl
  have pp : remP G H1 p p = none := by
    unfold remP
    rw [if_pos rfl]
  refine ⟨remP G H1 p, G, .obo (some p) C us :: ds.map .d, c, obo_data (fun x o e => (remP_some e).2.1) s1.g (fun x o e => (remP_some e).2.2) gp pp hp rr r1, ⟨p, us, ds, rfl, hP⟩, fun G2 H2 a1 a2 a3 a4 => ?_⟩
  have up : ∀ x o, F x = some o → remP G H1 p x = some o := fun x o e => by
    have ne : x ≠ p := by rintro rfl; rw [fp] at e; cases e
    rw [remP_of ne (s1.dj x o e)]
    exact s1.f x o e
  exact q G2 H2 (fun x o e => a1 x o (up x o e)) a2 (fun x o e => a3 x o (up x o e)) a4
theorem xz_meth {P : List (Str × Dt) → List Dt → Addr → Prop} {sp : Sp} {i : Nat} {a a0 : Option Addr} {m : Str} (hi0 : es[i]? = some (.obo a0 C us0)) (hm : us0.lookup m = none) (ha : EvMA K ta es es1 ds) (hi : es1[i]? = some (.obo a C us)) (hP : P us ds c) :
    XvZ K (tMeth C m (spOr sp (FSpecZ K (ZO C P))) [] E (tVar i) ta) E es c := fun F G H σ s q Q => by
  obtain ⟨o0, ho0, p0, dx0, ws0, e0, g0, f0, h0, r0, an0⟩ := s.sl i _ hi0
  subst e0
  refine ⟨_, ho0, p0, dx0, ws0, rfl, h0, r0.lookup_none hm, ha F G H σ s _ fun vs G1 H1 s1 g1 r1 => ?_⟩
  rw [List.append_nil]
  exact .inr (raisedZ s1 ho0 hi hP r1 (q.up g1))
/-- C(..) raises in its __init__ -/
theorem xz_make {R : List Dt → Addr → Prop} {sp : Sp} (ha : EvA K ta es ds) (hP : R ds c) : XvZ K (tMake C (spOr sp (FSpecZ K (ZI C R))) [] E ta) E es c := fun F G H σ s q Q =>
  ha F G H σ s _ fun vs G1 H1 s1 g1 r1 x dx hx hdx ne => by
    rw [List.append_nil]
    have hx1 : upd H1 dx (.own x) x = none := by
      rw [upd_ne (fun z => ne z.symm)]
      exact hx
    have s2 : Stt K F G1 (upd (upd H1 dx (.own x)) x (.ins C dx [])) σ es := (s1.lay hdx).lay hx1
    have gx : G1 x = none := s1.gnone hx
    refine .inr ⟨fun a => if a = x then none else DL.rem G1 (upd (upd H1 dx (.own x)) x (.ins C dx [])) a, G1, .obo (some x) C [] :: ds.map .d, c, ?_, ⟨x, ds, rfl, hP⟩, fun G2 H2 a1 a2 a3 a4 => ?_⟩
    · refine obo_data (fun a o e => ?_) s2.g (fun a o e => ?_) gx (if_pos rfl) upd_same .nil r1
      · by_cases q : a = x
        · rw [if_pos q] at e; cases e
        · rw [if_neg q] at e; exact (rem_some e).1
      · by_cases q : a = x
        · rw [if_pos q] at e; cases e
        · rw [if_neg q] at e; exact (rem_some e).2
    · have up : ∀ a o, F a = some o → (if a = x then none else DL.rem G1 (upd (upd H1 dx (.own x)) x (.ins C dx [])) a) = some o := fun a o e => by
        have ea := s1.f a o e
        have ne1 : a ≠ x := by rintro rfl; rw [hx] at ea; cases ea
        have ne2 : a ≠ dx := by rintro rfl; rw [hdx] at ea; cases ea
        rw [if_neg ne1, rem_of (s1.dj a o e), upd_ne ne1, upd_ne ne2]
        exact ea
      exact q G2 H2 (fun a o e => a1 a o (up a o e)) a2 (fun a o e => a3 a o (up a o e)) (g1.trans a4)
end
section
variable {K : PySem.W.Frag} {E : XK} {es : List Sl} {ta : TA}
theorem ob_makeZ {P : List Dt → List (Str × Dt) → Prop} {sp : Sp} {C : Addr} {fs : List (Str × Dt)} {ds : List Dt} (ha : EvA K ta es ds) (hP : P ds fs) : EvOb K (tMake C (spOr (FSpec K (RI C P)) sp) [] E ta) es C fs := fun F G H σ s Q q =>
  ha F G H σ s _ fun vs G1 H1 s1 g1 r1 x dx hx hdx ne => by
    rw [List.append_nil]
    have hx1 : upd H1 dx (.own x) x = none := by
      rw [upd_ne (fun z => ne z.symm)]
      exact hx
    have s2 : Stt K F G1 (upd (upd H1 dx (.own x)) x (.ins C dx [])) σ es := (s1.lay hdx).lay hx1
    have gx : G1 x = none := s1.gnone hx
    have rx : ∀ a o, a ≠ x → rem G1 (upd (upd H1 dx (.own x)) x (.ins C dx [])) a = some o → rem G1 (upd (upd H1 dx (.own x)) x (.ins C dx [])) a = some o := fun _ _ _ e => e
    -- what is another's: all but the known and the new one
    refine .inl ⟨fun a => if a = x then none else rem G1 (upd (upd H1 dx (.own x)) x (.ins C dx [])) a, G1, .obo (some x) C [] :: ds.map .d, .non, .obo (some x) C fs :: ds.map .d, ?_, ⟨x, _, fs, rfl, rfl, rfl, hP⟩, ?_⟩
    · have base : Stt K (fun a => if a = x then none else rem G1 (upd (upd H1 dx (.own x)) x (.ins C dx [])) a) G1 (upd (upd H1 dx (.own x)) x (.ins C dx [])) (vs.map some) (ds.map .d) := by
        refine stt_data (fun a o e => ?_) s2.g (fun a o e => ?_) r1
        · by_cases q : a = x
          · rw [if_pos q] at e; cases e
          · rw [if_neg q] at e; exact (rem_some e).1
        · by_cases q : a = x
          · rw [if_pos q] at e; cases e
          · rw [if_neg q] at e; exact (rem_some e).2
      refine ⟨base.f, base.g, base.dj, by rw [List.map_cons, List.length_cons, List.length_cons, base.len], fun i t e => ?_, sp_one⟩
      · cases i with
        | zero =>
          cases e
          exact ⟨_, rfl, x, dx, [], rfl, gx, if_pos rfl, upd_same, .nil, fun q e => (Option.some.inj e).symm⟩
        | succ i => exact base.sl i t e
    · intro v G2 H2 s3 g3 r3
      cases r3
      obtain ⟨o, ho, p, dx', fv, eo, gp, fp, hp, rf, an⟩ := s3.sl 0 _ rfl
      cases ho
      cases eo
      refine ⟨rfl, ?_⟩
      have keep : ∀ a o, H1 a = some o → G1 a = none → H2 a = some o ∧ G2 a = none := fun a o e g => by
        have ax : a ≠ x := fun z => by subst z; rw [hx] at e; cases e
        have adx : a ≠ dx := fun z => by subst z; rw [hdx] at e; cases e
        have fa : (if a = x then none else rem G1 (upd (upd H1 dx (.own x)) x (.ins C dx [])) a) = some o := by
          rw [if_neg ax, rem_of g, upd_ne ax, upd_ne adx]
          exact e
        exact ⟨s3.f a o fa, s3.dj a o fa⟩
      have nex : ∀ a o, H1 a = some o → a ≠ x := fun a o e z => by subst z; rw [hx] at e; cases e
      have fx : F x = none := by
        cases q : F x with
        | none => rfl
        | some o => exact absurd rfl (nex x o (s1.f x o q))
      have s4 : Stt K (upd F x (.ins C dx' fv)) G2 H2 σ es :=
        { f := fun a o e => by
            by_cases q : a = x
            · subst q
              rw [upd_same] at e
              cases e
              exact hp
            · rw [upd_ne q] at e
              exact (keep a o (s1.f a o e) (s1.dj a o e)).1
          g := s3.g
          dj := fun a o e => by
            by_cases q : a = x
            · subst q
              exact gp
            · rw [upd_ne q] at e
              exact (keep a o (s1.f a o e) (s1.dj a o e)).2
          len := s1.len
          sl := fun i t e => by
            obtain ⟨y, hy, k⟩ := s1.sl i t e
            exact ⟨y, hy, k.grow g3 (fun q u hg _ e => (keep q u e hg).1) fun q hg ⟨u, hu⟩ hf => ⟨(keep q u hu hg).2, by rw [upd_ne (nex q u hu)]; exact hf⟩⟩
          sp := s1.sp }
      exact q x dx' fv G2 H2 s4 fx (g1.trans g3) rf
end
/-! a try whose call raises a plain exception -/
def XvZS (K : PySem.W.Frag) (tc : (L2.St → XK) → TE) (es : List Sl) (c : Addr) : Prop := ∀ F G H σ, Stt K F G H σ es → ∀ (Q : VK) (E : L2.St → XK),
  (∀ G' H', Stt K F G' H' σ es → Same G G' → E σ (.ref c) none H') → tc E σ H Q
section
variable {K : PySem.W.Frag} {es : List Sl} {ta : TA} {ds : List Dt} {c C1 : Addr} {ρ : Type}
theorem xzs_call {R : List Dt → Addr → Prop} {a : Sp} (ha : EvA K ta es ds) (hP : R ds c) : XvZS K (fun E => tCallS (spOr a (FSpecZ K (ZD R))) E ta) es c := fun F G H σ s Q E q =>
  ha F G H σ s _ fun vs G1 H1 s1 g1 r1 => .inr ⟨DL.rem G1 H1, G1, ds.map .d, c, stt_data s1.rem.1 s1.g s1.rem.2 r1, ⟨_, rfl, hP⟩, fun G2 H2 a1 a2 a3 a4 => q G2 H2 (s1.after a1 a2 a3 a4) (g1.trans a4)⟩
theorem sm_tryZ {R : Type} {env : Unit → List Sl} {ed : R → Dt} {ee : R → List Sl} {m hm : Option (Fl Unit R)} {tc : (L2.St → XK) → TE} {rest : TS} {ts : Addr → Value → Option Addr → TS} {i : Nat} {x : Option Str} (he : PySem.W.exmOne K (.ref c) (.ref C1) = some true) (hu : es[i]? = some .un) (he2 : (env ())[i]? = some .un)
    (hx : ∀ f, x = some f → XvZS K tc es c) (hn : x = none → ∀ E, SM K (tSeq (tDrop (tc E)) rest) es m (loopRes env ed ee)) (hh : ∀ a, SM K (ts a (.ref c) none) es hm (loopRes env ed ee)) :
    SM K (fun D σ H => (fun W => tSeq (tDrop (tc (WE W))) rest) (wN K D [(.ref C1, i, ts)]) D σ H) es (tryX x (fun _ => hm) m) (loopRes env ed ee) := fun r e F G H σ D s q => by
  cases x with
  | none => exact hn rfl _ r e F G H σ D s q
  | some f =>
    have e : hm = some r := e
    refine hx _ rfl F G H σ s _ _ fun G' H' s1 g1 => ⟨true, he, fun _ a ha => ?_, fun z => by cases z⟩
    have es' : es.set i .un = es := List.ext_getElem? fun k => by
      by_cases q : i = k
      · subst q
        rw [List.getElem?_set_self (List.getElem?_eq_some_iff.mp hu).1, hu]
      · rw [List.getElem?_set_ne q]
    have s2 : Stt K F G' H' (σ.set i (some (.ref a))) es := by
      have := s1.undo i (some (.ref a))
      rw [es'] at this
      exact this
    refine hh a r e F G' H' _ _ s2 ?_
    rcases lr_no (env := env) (ed := ed) (ee := ee) r with ⟨fs, w⟩ | ⟨d, fs, w⟩
    · have wi := lr_nx (ed := ed) (ee := ee) he2 r fs w
      rw [w] at q ⊢
      intro G2 H2 σ2 s3 g2
      refine q G2 H2 (σ2.set i none) ?_ (g1.trans g2)
      have := s3.undo i none
      have e3 : fs.set i .un = fs := List.ext_getElem? fun k => by
        by_cases q : i = k
        · subst q
          rw [List.getElem?_set_self (List.getElem?_eq_some_iff.mp wi).1, wi]
        · rw [List.getElem?_set_ne q]
      rw [e3] at this
      exact this
    · rw [w] at q ⊢
      intro v G2 H2 σ2 s3 g2 r2
      exact q v G2 H2 σ2 s3 (g1.trans g2) r2
end
end DL

/-! Dl33: dicts as data; a dict that is filled while its object is made -/
namespace L2
open PySem PySem.Spec PyProof.Rows
/-- enumerate(a list) -/
theorem pi_enumL {X : Cx} {e : Expr} {ta : TA} {p pos tpos : Pos} {elts : List Expr} {kk : Nat} (hg : Gl X "enumerate") (hm : X.mg "enumerate" = none) (ha : PA X [e] ta) (hs : starEach [e] X.env = [(false, eval e X.env)] := by rfl) :
    PI X (.Tuple elts kk tpos) (.Call (.Name "enumerate" p) [e] [] pos) (iEnumK X.K 0 ta) := by
  refine ⟨fun pins s σ H R I h => ?_⟩
  refine Call_ (ld_blt I hg hm boot_enumerate (PyProof.Rows.callWith_type1 (thn (ha.run pos pins s σ H _ I h) fun us s1 ⟨vs, H1, I1, r1, q1⟩ => ?_) hs rfl))
  obtain ⟨a, xs, ex, hq, q⟩ := q1
  subst ex
  cases r1 with
  | cons r rr =>
    cases rr
    cases r
    obtain ⟨its, rv, p', hz⟩ := I1.list hq
    have hal : a < s1.heap.objs.size := by
      obtain ⟨o, ho, _⟩ := p'.isList
      exact Heap.lt_size ho
    refine call_enumerate_list p'.isList fun h' he hit hsz hk => wpAny_pyIter_enum he ?_
    have I2 : Inv X pins σ H1 { s1 with heap := h' } := I1.kept (t' := s1.toks) hk
    refine ⟨s1.heap.objs.size + 1, [s1.heap.objs.size + 1, s1.heap.objs.size], _, _, H1, rfl, I2, turn_enumK 0 a (s1.heap.objs.size + 1) s1.heap.objs.size (Nat.ne_of_lt hal) (Nat.ne_of_lt (Nat.lt_succ_of_lt hal)), ⟨⟨.none, he⟩, hit, Nat.succ_ne_self _⟩, fun b hb => ?_, q⟩
    have e' : b = s1.heap.objs.size + 1 ∨ b = s1.heap.objs.size := by simpa using hb
    have hle : s1.heap.objs.size ≤ b := by
      rcases e' with z | z
      · rw [z]; exact Nat.le_add_right _ _
      · rw [z]; exact Nat.le_refl _
    exact I1.fpOk hle (I1.hok.fresh hle)
end L2
namespace DL
open PySem L2
section
variable {K : PySem.W.Frag} {H : Hp}
mutual
theorem rep_nk : ∀ {v : V} {d : Dt} {k : NestedKey}, Rep K H v d → keyD d = some k → NK K H k v
  | _, _, _, .non, e => by cases e; exact .non
  | _, _, _, .bl b, e => by cases e; exact .bl b
  | _, _, _, .int i, e => by cases e; exact .int i
  | _, _, _, .str s, e => by cases e; exact .str s
  | _, _, _, .ty n, e => by cases e
  | _, _, k, .tup (ds := ds) h r, e => by
    have e : (keyDs ds).map NestedKey.tup = some k := e
    cases q : keyDs ds with
    | none => rw [q] at e; cases e
    | some ks =>
      rw [q] at e
      cases e
      exact .tup h (reps_nk r q)
  | _, _, _, .lst h r, e => by cases e
  | _, _, _, .obj h r, e => by cases e
  | _, _, _, .dic h r, e => by cases e
theorem reps_nk : ∀ {vs : List V} {ds : List Dt} {ks : List NestedKey}, Reps K H vs ds → keyDs ds = some ks → NKs K H ks vs
  | _, _, _, .nil, e => by cases e; exact .nil
  | _, _, ks, .cons (d := d) (ds := ds) h r, e => by
    have e : (keyD d).bind (fun k => (keyDs ds).map fun ks => k :: ks) = some ks := e
    cases q : keyD d with
    | none => rw [q] at e; cases e
    | some k =>
      cases q2 : keyDs ds with
      | none => rw [q, q2] at e; cases e
      | some l =>
        rw [q, q2] at e
        cases e
        exact .cons (rep_nk h q) (reps_nk r q2)
end
end
/-- a key that is no deeper than 8 -/
def nkC (d : Dt) : Option NestedKey := (keyD d).bind fun k => if k.depth ≤ 8 then some k else none
theorem nkC_of {d : Dt} {k : NestedKey} (h : nkC d = some k) : keyD d = some k ∧ k.depth ≤ 8 := by
  unfold nkC at h
  cases q : keyD d with
  | none => rw [q] at h; cases h
  | some j =>
    rw [q] at h
    have h : (if j.depth ≤ 8 then some j else none) = some k := h
    obtain ⟨a, b⟩ := ite_some h
    exact ⟨congrArg some b, b ▸ a⟩
def hasD (kvs : List (Dt × Dt)) (k : NestedKey) : Bool := kvs.any fun p => decide (keyD p.1 = some k)
def putK2 (kvs : List (Dt × Dt)) (k : NestedKey) (kd d : Dt) : List (Dt × Dt) := if hasD kvs k = true then kvs.map fun p => if keyD p.1 = some k then (p.1, d) else p else kvs ++ [(kd, d)]
section
variable {K : PySem.W.Frag} {G H : Hp}
theorem repK_has {k : NestedKey} : ∀ {xs : NX} {kvs : List (Dt × Dt)}, RepK K G xs kvs → hasN xs k = hasD kvs k
  | _, _, .nil => rfl
  | _, _, .cons (k := j) a _ _ _ r => by
    have ih := repK_has (k := k) r
    unfold hasN hasD at ih ⊢
    rw [List.any_cons, List.any_cons, ih]
    congr 1
    dsimp only
    rw [a]
    by_cases h : j = k
    · rw [decide_eq_true h, decide_eq_true (congrArg some h)]
    · rw [decide_eq_false h, decide_eq_false fun z => h (Option.some.inj z)]
theorem repK_all : ∀ {xs : NX} {kvs : List (Dt × Dt)}, RepK K G xs kvs → Same G H → AllK K H xs
  | _, _, .nil, _ => fun x hx => nomatch hx
  | _, _, .cons a b c d r, g => fun x hx => by
    rcases List.mem_cons.mp hx with rfl | hx
    · exact ⟨rep_nk (c.mono g) a, b⟩
    · exact repK_all r g x hx
theorem repK_map {k : NestedKey} {v : V} {d : Dt} (rv : Rep K G v d) : ∀ {xs : NX} {kvs : List (Dt × Dt)}, RepK K G xs kvs → RepK K G (xs.map fun x => if x.1 = k then (x.1, x.2.1, v) else x) (kvs.map fun p => if keyD p.1 = some k then (p.1, d) else p)
  | _, _, .nil => .nil
  | _, _, .cons (k := j) a b c e r => by
    rw [List.map_cons, List.map_cons]
    dsimp only
    by_cases h : j = k
    · rw [if_pos h, if_pos (a.trans (congrArg some h))]
      exact .cons a b c rv (repK_map rv r)
    · rw [if_neg h, if_neg fun z => h (Option.some.inj (a.symm.trans z))]
      exact .cons a b c e (repK_map rv r)
theorem repK_snoc {k : NestedKey} {b : Addr} {v : V} {kd d : Dt} (hk : keyD kd = some k) (h8 : k.depth ≤ 8) (rk : Rep K G (.ref b) kd) (rv : Rep K G v d) : ∀ {xs : NX} {kvs : List (Dt × Dt)}, RepK K G xs kvs → RepK K G (xs ++ [(k, b, v)]) (kvs ++ [(kd, d)])
  | _, _, .nil => .cons hk h8 rk rv .nil
  | _, _, .cons a b c e r => .cons a b c e (repK_snoc hk h8 rk rv r)
theorem repK_put {k : NestedKey} {b : Addr} {v : V} {kd d : Dt} {xs : NX} {kvs : List (Dt × Dt)} (r : RepK K G xs kvs) (hk : keyD kd = some k) (h8 : k.depth ≤ 8) (rk : Rep K G (.ref b) kd) (rv : Rep K G v d) : RepK K G (putN xs k b v) (putK2 kvs k kd d) := by
  unfold putN putK2
  rw [repK_has (k := k) r]
  split
  · exact repK_map rv r
  · exact repK_snoc hk h8 rk rv r
end
section
variable {K : PySem.W.Frag} {es : List Sl} {ta tb : TE} {w : World} {ds : List Dt} {kvs : List (Dt × Dt)} {k : NestedKey}
theorem ev_nin {neg : Bool} (ha : Ev K ta es (.tup ds)) (hb : Ev K tb es (.dic w kvs)) (hk : nkC (.tup ds) = some k) : Ev K (tOp (rNin K w neg) ta tb) es (.bl (if neg then !hasD kvs k else hasD kvs k)) := fun F G H σ s Q q =>
  ha F G H σ s _ fun x G1 H1 s1 g1 r1 => hb F G1 H1 σ s1 _ fun y G2 H2 s2 g2 r2 => by
    obtain ⟨k1, k2⟩ := nkC_of hk
    have r1 := (r1.mono g2).mono s2.g
    have n1 := rep_nk r1 k1
    cases r2 with
    | dic h r =>
      have rr := repK_all r s2.g
      rw [← repK_has (k := k) r] at *
      cases r1 with
      | tup h2 r2 => exact ⟨k, _, _, _, rfl, n1, k2, rfl, s2.g _ _ h, rr, q _ G2 H2 s2 (g1.trans g2) (.bl _)⟩
end
section
variable {K : PySem.W.Frag} {F G H F' G' H' : Hp} {σ σ' : L2.St} {es es' : List Sl} {p : Addr}
theorem Stt.leaveU {F G H : Hp} {σ : L2.St} {i : Nat} {p : Addr} {u0 : HO} {t : Sl} (s : Stt K F G H σ es) (hi : es[i]? = some t) (ht : t.isOwn = true) (ho : σ[i]? = some (some (.ref p))) (hp : H p = some u0) (gp : G p = none) : Stt K (upd F p u0) G H σ (es.set i .un) where
  f := fun a u e => by
    by_cases z : a = p
    · subst z
      rw [upd_same] at e
      exact hp.trans e
    · rw [upd_ne z] at e
      exact s.f a u e
  g := s.g
  dj := fun a u e => by
    by_cases z : a = p
    · subst z
      exact gp
    · rw [upd_ne z] at e
      exact s.dj a u e
  len := by rw [List.length_set]; exact s.len
  sl := fun j u e => by
    by_cases q : i = j
    · subst q
      have hj : i < es.length := (List.getElem?_eq_some_iff.mp hi).1
      rw [List.getElem?_set_self hj] at e
      cases e
      exact ⟨_, ho, trivial⟩
    · rw [List.getElem?_set_ne q] at e
      obtain ⟨x, hx, k⟩ := s.sl j u e
      refine ⟨x, hx, k.tr (Same.refl _) fun a m g f => ⟨g, ?_, fun w hw => hw⟩⟩
      rw [upd_ne (s.apart q hi ht ho e hx a m)]
      exact f
  sp := sp_setE s.sp has_un
theorem Stt.takeP {C : Addr} {dx : Addr} {vs : List (Str × V)} {fs : List (Str × Dt)} {i : Nat} (s : Stt K (upd F p (.ins C dx vs)) G H σ es) (hF : F p = none) (r : RepF K G vs fs) : Stt K F G H (σ.set i (some (.ref p))) (es.set i (.obo (some p) C fs)) := by
  have gp : G p = none := s.dj p _ upd_same
  have hp : H p = some (.ins C dx vs) := s.f p _ upd_same
  have up : ∀ {q : Addr} {u : HO}, F q = some u → upd F p (.ins C dx vs) q = some u := fun {q u} e => by rw [upd_ne (ne_of_none e hF)]; exact e
  refine ⟨fun a u e => s.f a u (up e), s.g, fun a u e => s.dj a u (up e), by rw [List.length_set, List.length_set]; exact s.len, fun j t e => ?_, s.sp_take fun _ _ h => h⟩
  · by_cases q : i = j
    · subst q
      have hj : i < es.length := by
        have := (List.getElem?_eq_some_iff.mp e).1
        rwa [List.length_set] at this
      rw [List.getElem?_set_self hj] at e
      cases e
      exact ⟨_, List.getElem?_set_self (by rw [s.len]; exact hj), p, dx, vs, rfl, gp, hF, hp, r, fun q e => (Option.some.inj e).symm⟩
    · rw [List.getElem?_set_ne q] at e
      rw [List.getElem?_set_ne q]
      obtain ⟨x, hx, k⟩ := s.sl j t e
      exact ⟨x, hx, k.grow (Same.refl _) (fun q u _ _ e => e) fun q g _ f => ⟨g, (upd_none f).2⟩⟩
theorem upd_swap {F : Hp} {p q : Addr} {a b : HO} (h : p ≠ q) : upd (upd F q b) p a = upd (upd F p a) q b := funext fun x => by
  by_cases e : x = p
  · subst e
    rw [upd_same, upd_ne h, upd_same]
  · rw [upd_ne e]
    by_cases e2 : x = q
    · subst e2
      rw [upd_same, upd_same]
    · rw [upd_ne e2, upd_ne e2, upd_ne e]
end
/-- an object is made, a dict of its own is filled -/
structure DSt (K : PySem.W.Frag) (w : World) (F G H : Hp) (σ : L2.St) (es : List Sl) (i : Nat) (p C dx : Addr) (vs : List (Str × V)) (f : Str) (q : Addr) (xs : NX) (kvs : List (Dt × Dt)) : Prop where
  s : Stt K (upd (upd F p (.ins C dx vs)) q (NDO w q xs)) G H σ es
  o : σ[i]? = some (some (.ref p))
  fp : F p = none
  fq : F q = none
  pq : p ≠ q
  b : vs.lookup f = some (.ref q)
  k : RepK K G xs kvs
section
variable {K : PySem.W.Frag} {w : World} {F G H : Hp} {σ : L2.St} {es : List Sl} {i : Nat} {p C dx q : Addr} {vs : List (Str × V)} {f : Str} {xs : NX} {kvs : List (Dt × Dt)} {te tk : TE} {d : Dt} {ds : List Dt} {k : NestedKey}
theorem dset (S : DSt K w F G H σ es i p C dx vs f q xs kvs) (hv : Ev K te es d) (hk : Ev K tk es (.tup ds)) (hn : nkC (.tup ds) = some k) (hl : xs.length < sizeLine) (hc : Cls K C) (hna : NoAttr K C f) {D : Ends}
    (cont : ∀ G' H' xs', DSt K w F G' H' σ es i p C dx vs f q xs' (putK2 kvs k (.tup ds) d) → Same G G' → xs'.length ≤ xs.length + 1 → D.nx σ H') : tAsg te (gSub (tFld K (tVar i) f) tk (rSetN K w)) D σ H := by
  obtain ⟨s, o, fp, fq, pq, b, r⟩ := S
  refine hv _ G H σ s _ fun v G1 H1 s1 g1 r1 => ⟨.ref p, o, p, C, dx, vs, .ref q, rfl, s1.f p _ (by rw [upd_ne pq, upd_same]), hc, hna, b, ?_⟩
  refine hk _ G1 H1 σ s1 _ fun kv G2 H2 s2 g2 r2 => ?_
  obtain ⟨k1, k2⟩ := nkC_of hn
  have n1 := rep_nk (r2.mono s2.g) k1
  have rr := r.mono (g1.trans g2)
  cases hr2 : r2 with
  | tup h2 r3 =>
    refine ⟨q, xs, k, _, rfl, s2.f q _ upd_same, repK_all rr s2.g, rfl, n1, k2, hl, ?_⟩
    exact cont G2 _ _ ⟨s2.reprot, o, fp, fq, pq, b, repK_put rr k1 k2 r2 (r1.mono g2)⟩ (g1.trans g2) putN_len
end
theorem lookup_putF {f : Str} {v : V} : ∀ {vs : List (Str × V)}, (putF f v vs).lookup f = some v
  | [] => by
    unfold putF
    rw [List.lookup_cons, beq_self_eq_true]
  | (g, e) :: r => by
    unfold putF
    by_cases h : g = f
    · rw [if_pos h, h, List.lookup_cons, beq_self_eq_true]
    · rw [if_neg h, List.lookup_cons]
      have : (f == g) = false := beq_eq_false_iff_ne.mpr (Ne.symm h)
      rw [this]
      exact lookup_putF
theorem set_same {α : Type} {xs : List α} {i : Nat} {x : α} (h : xs[i]? = some x) : xs.set i x = xs := List.ext_getElem? fun k => by
  by_cases q : i = k
  · subst q
    rw [List.getElem?_set_self (List.getElem?_eq_some_iff.mp h).1, h]
  · rw [List.getElem?_set_ne q]
section
variable {K : PySem.W.Frag} {ρ α : Type} {em : α → Dt} {items : List α} {a : Option Addr} {C p0 : Addr} {fs : List (Str × Dt)} {i : Nat} {f : Str} {w : World} {es env es' : List Sl} {en : α → List Sl} {vs : List Nat} {wi : TI} {g : TG} {tv1 tv2 tk1 tk2 : TE} {d : Dt} {e1 e2 : α → List Dt} {kvs : List (Dt × Dt)} {m : Option ρ} {oc : ρ → Res} {tz : TS}
/-- self.f = {} / for x in items: self.f[k1] = d; self.f[k2] = d -/
theorem sm_dfill (hobo : es[i]? = some (.obo (some p0) C fs)) (hc : Cls K C) (hna : NoAttr K C f) (hfs : fs.length < 900)
    (hi : EvI K wi (es.set i .un) (items.map em)) (w0 : Wk (es.set i .un) env)
    (hg : ∀ x, EvG K g vs env (em x) (en x)) (hvs : i ∉ vs) (hb : ∀ x, Wk (en x) env)
    (hv1 : ∀ x, Ev K tv1 (en x) d) (hk1 : ∀ x, Ev K tk1 (en x) (.tup (e1 x))) (hv2 : ∀ x, Ev K tv2 (en x) d) (hk2 : ∀ x, Ev K tk2 (en x) (.tup (e2 x)))
    (hm : forL items ([] : List (Dt × Dt)) (fun x s => (nkC (.tup (e1 x))).bind fun k1 => (nkC (.tup (e2 x))).bind fun k2 => some (putK2 (putK2 s k1 (.tup (e1 x)) d) k2 (.tup (e2 x)) d)) = some kvs)
    (hlen : items.length ≤ 5000000) (he : env.set i (.obo (some p0) C (putD f (.dic w kvs) fs)) = es') (k : SM K tz es' m oc) :
    SM K (tSeq (sFld K (tVar i) (tDNewN w) f) (tSeq (tFor wi g (tSeq (tAsg tv1 (gSub (tFld K (tVar i) f) tk1 (rSetN K w))) (tSeq (tAsg tv2 (gSub (tFld K (tVar i) f) tk2 (rSetN K w))) tNext))) tz)) es m oc := fun r e F G H σ D s q => by
  obtain ⟨o, ho, p, dx, ws, eo, gp, fp, hp, rr, an⟩ := s.sl i _ hobo
  subst eo
  obtain rfl : p0 = p := an p0 rfl
  refine fun qd hq => ?_
  have pq : p0 ≠ qd := fun z => by rw [← z, hp] at hq; cases hq
  refine ⟨.ref p0, ho, p0, C, dx, ws, rfl, by rw [upd_ne pq]; exact hp, hc, hna, by rw [rr.length]; omega, ?_⟩
  have s1 := s.leaveU hobo rfl ho hp gp
  have s2 := s1.prot (o := NDO w qd []) hq
  rw [← upd_swap pq] at s2
  have s3 := s2.reprot (o' := .ins C dx (putF f (.ref qd) ws))
  rw [upd_swap pq] at s3
  have fq := s.fnone hq
  refine hi _ G _ σ s3 _ fun J G1 H1 s4 g1 y => ?_
  refine ⟨fun n mm σ' H' => ∃ G' xs kv, DSt K w F G' H' σ' env i p0 C dx (putF f (.ref qd) ws) f qd xs kv ∧ Same G1 G' ∧ mm = items.length - n ∧ n ≤ items.length ∧ xs.length ≤ 2 * n ∧ forL (items.drop n) kv (fun x s => (nkC (.tup (e1 x))).bind fun k1 => (nkC (.tup (e2 x))).bind fun k2 => some (putK2 (putK2 s k1 (.tup (e1 x)) d) k2 (.tup (e2 x)) d)) = some kvs, ⟨_, G1, [], [], ⟨s4.wk w0, ho, fp, fq, pq, lookup_putF, .nil⟩, Same.refl _, rfl, Nat.zero_le _, Nat.zero_le _, hm⟩, ?_⟩
  rintro n mm σ' H' ⟨G', xs, kv, S, g', rfl, hle, hx, e'⟩
  by_cases hlt : n < items.length
  · refine .inr ?_
    have hd : items.drop n = items[n] :: items.drop (n + 1) := List.drop_eq_getElem_cons hlt
    rw [hd] at e'
    obtain ⟨go, yld⟩ := (y n _ G' H' σ' env g' S.s).1 (em items[n]) (by rw [List.getElem?_map, List.getElem?_eq_getElem hlt]; rfl)
    generalize items[n] = x at *
    have e' : ((nkC (.tup (e1 x))).bind fun k1 => (nkC (.tup (e2 x))).bind fun k2 => some (putK2 (putK2 kv k1 (.tup (e1 x)) d) k2 (.tup (e2 x)) d)).bind _ = some kvs := e'
    cases q1 : nkC (.tup (e1 x)) with
    | none => rw [q1] at e'; cases e'
    | some k1 =>
      cases q2 : nkC (.tup (e2 x)) with
      | none => rw [q1, q2] at e'; cases e'
      | some k2 =>
        rw [q1, q2] at e'
        refine ⟨go, fun σ2 H2 => ∃ G2 xs2, DSt K w F G2 H2 σ2 env i p0 C dx (putF f (.ref qd) ws) f qd xs2 (putK2 (putK2 kv k1 (.tup (e1 x)) d) k2 (.tup (e2 x)) d) ∧ Same G1 G2 ∧ xs2.length ≤ 2 * (n + 1), fun σ2 H2 ⟨G2, xs2, a1, a2, a3⟩ => ⟨items.length - (n + 1), by omega, G2, xs2, _, a1, a2, rfl, by omega, a3, e'⟩, fun xv H2 hy => ?_⟩
        obtain ⟨G2, st2, g2, rx⟩ := yld xv H2 hy
        refine hg x _ G2 H2 σ' xv st2 rx _ fun σ3 G3 H3 st3 g3 _ keep => ?_
        have sz : (10000000 : Nat) < sizeLine := by decide
        have S3 : DSt K w F G3 H3 σ3 (en x) i p0 C dx (putF f (.ref qd) ws) f qd xs kv := ⟨st3, by rw [keep i hvs]; exact S.o, S.fp, S.fq, S.pq, S.b, S.k.mono (g2.trans g3)⟩
        refine dset S3 (hv1 x) (hk1 x) q1 (by omega) hc hna fun G4 H4 xs4 S4 g4 l4 => ?_
        refine dset S4 (hv2 x) (hk2 x) q2 (by omega) hc hna fun G5 H5 xs5 S5 g5 l5 => ?_
        exact ⟨G5, xs5, ⟨S5.s.wk (hb x), S5.o, S5.fp, S5.fq, S5.pq, S5.b, S5.k⟩, g'.trans (g2.trans (g3.trans (g4.trans g5))), by omega⟩
  · have e3 : n = items.length := by omega
    subst e3
    refine .inl ⟨(y items.length _ G' H' σ' env g' S.s).2 (by simp), ?_⟩
    rw [List.drop_length] at e'
    cases e'
    have gq : G' qd = none := S.s.dj qd _ upd_same
    have s5 := S.s.give (by rw [upd_ne (Ne.symm pq)]; exact fq)
    have gg := g1.trans (g'.trans (same_upd (o := NDO w qd xs) gq))
    have s6 := s5.takeP (i := i) fp (repF_put (f := f) (.dic (w := w) (xs := xs) upd_same (S.k.mono (same_upd gq))) (rr.mono gg))
    rw [set_same S.o] at s6
    exact k r e F _ H' σ' D (he ▸ s6) (q.up gg)
end
section
variable {K : PySem.W.Frag} {es es1 es' : List Sl} {ρ : Type} {tz : TS} {m : Option ρ} {oc : ρ → Res} {te : TE} {d : Dt} {g : TG} {vs : List Nat}
theorem sm_asgGM (h : EvM K te es es1 d) (hg : EvG K g vs es1 d es') (k : SM K tz es' m oc) : SM K (tSeq (tAsg te g) tz) es m oc := fun r e F G H σ D s q =>
  h F G H σ s _ fun v G1 H1 s1 g1 r1 => hg F G1 H1 σ v s1 r1 _ fun σ' G2 H2 s2 g2 _ _ => k r e F G2 H2 σ' D s2 (q.up (g1.trans g2))
end
section
variable {K : PySem.W.Frag} {es : List Sl} {ta tb : TE} {D d : Dt} {i : Int}
theorem ev_ixR (ha : Ev K ta es D) (hb : Ev K tb es (.int i)) (h : ∃ ds, D = .tup ds ∧ atI ds i = some d) : Ev K (tOp (rIxT K) ta tb) es d := by
  obtain ⟨ds, rfl, e⟩ := h
  exact ev_ixT ha hb e
end
def szC {α : Type} (xs : List α) : Option Unit := if xs.length ≤ 5000000 then some () else none
theorem szC_of {α : Type} {xs : List α} {z : Unit} (h : szC xs = some z) : xs.length ≤ 5000000 := (ite_some h).1
section
variable {K : PySem.W.Frag} {es es1 : List Sl} {te : TE}
theorem eim_list {ds : List Dt} (h : EvM K te es es1 (.lst ds)) : EvIM K (iList K te) es es1 ds := fun F G H σ s R q => h F G H σ s _ fun v G1 H1 s1 g1 r1 => by
  cases r1 with
  | lst hs r =>
    refine ⟨_, rfl, ⟨_, s1.g.seq hs⟩, q _ G1 H1 s1 g1 fun i F2 G2 H2 σ2 es2 g2 s2 => ⟨fun d e => ?_, fun e => ⟨_, s2.g.seq (g2.seq hs), by rw [r.length]; exact e⟩⟩⟩
    obtain ⟨v, hv, rv⟩ := r.get e
    refine ⟨⟨_, v, s2.g.seq (g2.seq hs), hv⟩, fun x H3 y => ?_⟩
    obtain ⟨e1, y2⟩ := y
    subst e1
    have := (y2 _ (s2.g.seq (g2.seq hs))).symm.trans hv
    cases this
    exact ⟨G2, s2, Same.refl _, rv.mono g2⟩
theorem eim_tup {ds : List Dt} (h : EvM K te es es1 (.tup ds)) : EvIM K (iTup K te) es es1 ds := fun F G H σ s R q => h F G H σ s _ fun v G1 H1 s1 g1 r1 => by
  cases r1 with
  | tup hs r =>
    refine ⟨_, rfl, ⟨_, sqT_mono s1.g hs⟩, q _ G1 H1 s1 g1 fun i F2 G2 H2 σ2 es2 g2 s2 => ⟨fun d e => ?_, fun e => ⟨_, sqT_mono s2.g (sqT_mono g2 hs), by rw [r.length]; exact e⟩⟩⟩
    obtain ⟨v, hv, rv⟩ := r.get e
    refine ⟨⟨_, v, sqT_mono s2.g (sqT_mono g2 hs), hv⟩, fun x H3 y => ?_⟩
    obtain ⟨e1, y2⟩ := y
    subst e1
    have := (y2 _ (sqT_mono s2.g (sqT_mono g2 hs))).symm.trans hv
    cases this
    exact ⟨G2, s2, Same.refl _, rv.mono g2⟩
end
/-! x in a list of data of any depth -/
section
open PySem.Spec PyProof.Rows
variable {X : Cx}
def rInLD (K : PySem.W.Frag) (neg : Bool) : R2 := fun x y H Q => ∃ d ds, Dp K H x d ∧ Dp K H y (.list ds) ∧ (d.canLay0 = true ∧ d.depth ≤ 60) ∧ SeqAt.shaped (.list ds) = true ∧ Q (.bl (if neg = true then !ds.any (fun z => PyData.eqv z d) else ds.any fun z => PyData.eqv z d)) H
theorem op_inLD (hu : X.A.units + 64 < cLine) : OpR X (compareOp .In) (rInLD X.K false) := by
  intro pins s σ H x y v u Q I rx ry h
  obtain ⟨d, ds, hd, he, sd, se, q⟩ := h
  obtain ⟨as, r1⟩ := Dp.reads I d x v hd rx
  obtain ⟨bs, r2⟩ := Dp.reads I (.list ds) y u he ry
  exact SeqAt.in_list_reads r2 r1 (SeqAt.canLay_of_shaped se) sd.1 (room_inT sd hu) ⟨.bl _, H, I, rfl, q⟩
theorem op_ninLD (hu : X.A.units + 64 < cLine) : OpR X (compareOp .NotIn) (rInLD X.K true) := by
  intro pins s σ H x y v u Q I rx ry h
  obtain ⟨d, ds, hd, he, sd, se, q⟩ := h
  obtain ⟨as, r1⟩ := Dp.reads I d x v hd rx
  obtain ⟨bs, r2⟩ := Dp.reads I (.list ds) y u he ry
  exact SeqAt.notIn_list_reads r2 r1 (SeqAt.canLay_of_shaped se) sd.1 (room_inT sd hu) ⟨.bl _, H, I, rfl, q⟩
end
section
variable {K : PySem.W.Frag} {es : List Sl} {ta tb : TE} {a : Dt} {ds : List Dt}
theorem ev_inLD (sa : SH 60 a) (sb : SH 64 (.lst ds)) (ha : Ev K ta es a) (hb : Ev K tb es (.lst ds)) : Ev K (tOp (rInLD K false) ta tb) es (.bl (inD a ds)) := ev_op ha hb fun F G H σ es x y s rx ry Q q => by
  have e : pd (.lst ds) = .list (pds ds) := by simp only [pd]
  have d2 := sb.dp s.g ry
  have s2 := shaped_of sb
  rw [e] at d2 s2
  refine ⟨pd a, pds ds, sa.dp s.g rx, d2, sa.lay, s2, ?_⟩
  rw [any_pds]
  exact q _ G H s (Same.refl _) (.bl _)
theorem ev_ninLD (sa : SH 60 a) (sb : SH 64 (.lst ds)) (ha : Ev K ta es a) (hb : Ev K tb es (.lst ds)) : Ev K (tOp (rInLD K true) ta tb) es (.bl (!inD a ds)) := ev_op ha hb fun F G H σ es x y s rx ry Q q => by
  have e : pd (.lst ds) = .list (pds ds) := by simp only [pd]
  have d2 := sb.dp s.g ry
  have s2 := shaped_of sb
  rw [e] at d2 s2
  refine ⟨pd a, pds ds, sa.dp s.g rx, d2, sa.lay, s2, ?_⟩
  rw [any_pds]
  exact q _ G H s (Same.refl _) (.bl _)
def inDC (a : Dt) (ds : List Dt) : Option Bool := if (shD 60 a && shD 64 (.lst ds)) = true then some (inD a ds) else none
theorem inDC_of {b : Bool} (h : inDC a ds = some b) : (SH 60 a ∧ SH 64 (.lst ds)) ∧ inD a ds = b := by
  obtain ⟨h1, h2⟩ := ite_some h
  rw [Bool.and_eq_true] at h1
  exact ⟨⟨shD_ok h1.1, shD_ok h1.2⟩, h2⟩
theorem ev_inLC {b : Bool} (ha : Ev K ta es a) (hb : Ev K tb es (.lst ds)) (h : inDC a ds = some b) : Ev K (tOp (rInLD K false) ta tb) es (.bl b) := by
  obtain ⟨⟨s1, s2⟩, e⟩ := inDC_of h
  exact e ▸ ev_inLD s1 s2 ha hb
theorem ev_ninLC {b : Bool} (ha : Ev K ta es a) (hb : Ev K tb es (.lst ds)) (h : inDC a ds = some b) : Ev K (tOp (rInLD K true) ta tb) es (.bl (!b)) := by
  obtain ⟨⟨s1, s2⟩, e⟩ := inDC_of h
  exact e ▸ ev_ninLD s1 s2 ha hb
end
end DL

/-! Dl34: properties of own classes -/
namespace DL
open PySem L2
section
variable {K : PySem.W.Frag} {es : List Sl} {d : Dt} {E : XK}
/-- o.f, a property -/
theorem ev_prop {P : List Dt → Dt → Prop} {to : TE} {C : Addr} {fs : List (Str × Dt)} (ho : Ev K to es (.obj C fs)) (hP : P [.obj C fs] d) : Ev K (tProp C (FSpec K (RD P)) [] E to) es d := fun F G H σ s Q q =>
  ho F G H σ s _ fun x G0 H0 s0 g0 r0 => by
    have r0' := r0
    cases r0 with
    | obj h rf =>
      refine ⟨_, _, _, rfl, s0.g _ _ h, ?_⟩
      exact ⟨rem G0 H0, G0, [Dt.obj C fs].map .d, d, [Dt.obj C fs].map .d, stt_data s0.rem.1 s0.g s0.rem.2 (.cons r0' .nil), ⟨_, rfl, rfl, hP⟩, fun v G2 H2 s2 g2 r2 =>
        q v G2 H2 (s0.after s2.f s2.g s2.dj g2) (g0.trans g2) r2⟩
/-! and, or: tests that change the slots -/
variable {t u : TT} {S : Type} {en : S → List Sl}
theorem etm_pure {tt : TT} {b : Bool} {s : S} (h : EvMT K tt es (en s) b) : ∀ q, some (b, s) = some q → EvMT K tt es (en q.2) q.1 := fun q e => by cases e; exact h
theorem etm_bnd {γ : Type} {tt : TT} {m1 : Option γ} {k : γ → Option (Bool × S)} (h : ∀ x, m1 = some x → ∀ q, k x = some q → EvMT K tt es (en q.2) q.1) : ∀ q, m1.bind k = some q → EvMT K tt es (en q.2) q.1 := fun q e => by
  cases z : m1 with
  | none => rw [z] at e; cases e
  | some x => rw [z] at e; exact h x z q e
theorem etm_orC {es1 : List Sl} {x : Bool} {m : Option (Bool × S)} {s0 : S} {r : Bool × S} (h1 : EvMT K t es es1 x) (h0 : en s0 = es1) (h2 : x = false → ∀ q, m = some q → EvMT K u es1 (en q.2) q.1) (h : (if x = true then some (true, s0) else m) = some r) : EvMT K (tOr t u) es (en r.2) r.1 := fun F G H σ s Q q => h1 F G H σ s _ fun G1 H1 s1 g1 => by
  cases x with
  | true =>
    cases h
    exact q G1 H1 (by show Stt K F G1 H1 σ (en s0); rw [h0]; exact s1) g1
  | false => exact h2 rfl r h F G1 H1 σ s1 Q fun G2 H2 s2 g2 => q G2 H2 s2 (g1.trans g2)
theorem etm_andC {es1 : List Sl} {x : Bool} {m : Option (Bool × S)} {s0 : S} {r : Bool × S} (h1 : EvMT K t es es1 x) (h0 : en s0 = es1) (h2 : x = true → ∀ q, m = some q → EvMT K u es1 (en q.2) q.1) (h : (if x = true then m else some (false, s0)) = some r) : EvMT K (tAnd t u) es (en r.2) r.1 := fun F G H σ s Q q => h1 F G H σ s _ fun G1 H1 s1 g1 => by
  cases x with
  | false =>
    cases h
    exact q G1 H1 (by show Stt K F G1 H1 σ (en s0); rw [h0]; exact s1) g1
  | true => exact h2 rfl r h F G1 H1 σ s1 Q fun G2 H2 s2 g2 => q G2 H2 s2 (g1.trans g2)
end
/-! list.index of whole numbers -/
def findI (y : Int) : List Int → Nat → Option Nat
  | [], _ => none
  | x :: xs, k => if x = y then some k else findI y xs (k + 1)
def idxL (xs : List Int) (y : Int) : Option Int := (findI y xs 0).map fun n => (n : Int)
theorem findI_at {y : Int} : ∀ {xs : List Int} {k j : Nat}, findI y xs k = some j → ∃ i, j = k + i ∧ xs[i]? = some y ∧ ∀ m, m < i → xs[m]? ≠ some y
  | [], _, _, h => by cases h
  | x :: xs, k, j, h => by
    unfold findI at h
    by_cases e : x = y
    · rw [if_pos e] at h
      cases h
      exact ⟨0, rfl, congrArg some e, fun m hm => absurd hm (Nat.not_lt_zero m)⟩
    · rw [if_neg e] at h
      obtain ⟨i, e1, e2, e3⟩ := findI_at h
      refine ⟨i + 1, by omega, e2, fun m hm => ?_⟩
      cases m with
      | zero => exact fun q => e (Option.some.inj q)
      | succ m => exact e3 m (by omega)
section
variable {K : PySem.W.Frag} {es : List Sl} {te to : TE} {y : Int} {ys : List Int} {i : Int}
theorem ev_lIdx (ho : Ev K to es (.lst (ys.map Dt.int))) (he : Ev K te es (.int y)) (h : idxL ys y = some i) : Ev K (tBM K "list" (rIndex K) to (tCons te tNil)) es (.int i) := fun F G H σ s Q q =>
  ho F G H σ s _ fun v G1 H1 s1 g1 r1 => by
    cases r1 with
    | @lst a xs _ h1 q1 =>
      have e := ints_of q1
      subst e
      refine ⟨?_, he F G1 H1 σ s1 _ fun w G2 H2 s2 g2 r2 => ?_⟩
      · exact .inl ⟨rfl, _, s1.g.seq h1⟩
      cases r2
      unfold idxL at h
      cases hf : findI y ys 0 with
      | none => rw [hf] at h; cases h
      | some j =>
        rw [hf] at h
        cases h
        obtain ⟨k, e1, e2, e3⟩ := findI_at hf
        obtain rfl : j = k := by omega
        refine ⟨a, ys.map V.int, .int y, j, .int y, rfl, rfl, s2.g.seq (g2.seq h1), rfl, ?_, by rw [List.getElem?_map, e2]; rfl, ?_, fun m z' hm hz => ?_, q _ G2 H2 s2 (g1.trans g2) (.int _)⟩
        · rw [List.all_map]
          exact List.all_eq_true.mpr fun x _ => rfl
        · show (y == y) = true
          exact beq_self_eq_true y
        · rw [List.getElem?_map] at hz
          cases hq : ys[m]? with
          | none => rw [hq] at hz; cases hz
          | some z =>
            rw [hq] at hz
            cases hz
            have : z ≠ y := fun e => e3 m hm (by rw [hq, e])
            show (z == y) = false
            exact beq_eq_false_iff_ne.mpr this
end
end DL
namespace Hd
open PySem PySem.Spec PyProof.Rows L2 He
theorem prop_ok {K : PySem.W.Frag} {C p : Addr} {f : Str} (h1 : PySem.W.findIn K (.ref C) f = some (some (.ref p))) (h2 : PySem.W.specialIn K (.ref p) "__get__" = some (some (.builtin "property.__get__"))) (h3 : PySem.W.takesIn K (.ref p) = some true) (h4 : prRB K p = true) : PropOf K C f p (prG K p) := ⟨h1, h2, h3, prR_ok h4⟩
end Hd

/-! Dl35: objects of one's own whose lists and dicts are written to through them -/
namespace DL
open PySem L2
def PF.dt : PF → Dt
  | .dat d => d
  | .lst _ ds => .lst ds
  | .dic _ w kvs => .dic w kvs
def PX.dt : PX → Dt
  | .dct _ w kvs => .dic w kvs
  | .obj _ C fs => .obj C (fs.map fun f => (f.1, f.2.dt))
/-- the kinds of things that are a slot's own -/
def mainO : HO → Bool
  | .lst _ => true
  | .ins _ _ _ => true
  | .ext _ => true
  | _ => false
section
variable {K : PySem.W.Frag} {F G H G1 H1 : Hp} {σ : L2.St} {es es' : List Sl}
theorem PFOk.main {v : V} {x : PF} (h : PFOk K F G H v x) {a : Addr} (m : a ∈ x.adr) : ∃ u, H a = some u ∧ mainO u = true := by
  cases x with
  | dat d => cases m
  | lst q ds =>
    obtain ⟨_, g, f, vs, hp, r⟩ := h
    rw [List.mem_singleton.mp m]
    exact ⟨_, hp, rfl⟩
  | dic q w kvs =>
    obtain ⟨_, g, f, xs, hp, r⟩ := h
    rw [List.mem_singleton.mp m]
    exact ⟨_, hp, rfl⟩
theorem PFsOk.main : ∀ {vs : List (Str × V)} {fs : List (Str × PF)}, PFsOk K F G H vs fs → ∀ {a : Addr}, a ∈ fs.flatMap (fun f => f.2.adr) → ∃ u, H a = some u ∧ mainO u = true
  | [], [], _, a, m => by cases m
  | (a, v) :: vs, (b, x) :: fs, h, c, m => by
    rw [List.flatMap_cons] at m
    rcases List.mem_append.mp m with m | m
    · exact h.2.1.main m
    · exact PFsOk.main h.2.2 m
  | [], _ :: _, h, _, _ => h.elim
  | _ :: _, [], h, _, _ => h.elim
theorem SlOk.main {o : Option V} {s : Sl} (h : SlOk K F G H o s) {a : Addr} (m : s.has o a) : ∃ u, H a = some u ∧ mainO u = true := by
  cases s with
  | un => exact m.elim
  | d x => exact m.elim
  | own b xs =>
    obtain ⟨p, vs, e2, g, f, hp, r, an⟩ := h
    rw [show o = some (.ref a) from m] at e2
    cases e2
    exact ⟨_, hp, rfl⟩
  | obo b C fs =>
    obtain ⟨p, dx, vs, e2, g, f, hp, r, an⟩ := h
    rw [show o = some (.ref a) from m] at e2
    cases e2
    exact ⟨_, hp, rfl⟩
  | prv x =>
    obtain ⟨_, h⟩ := h
    cases x with
    | dct q w kvs =>
      obtain ⟨v, _, h⟩ := h
      exact PFOk.main h m
    | obj p C fs =>
      obtain ⟨_, g, f, dx, vs, hp, r⟩ := h
      rcases List.mem_cons.mp m with rfl | m
      · exact ⟨_, hp, rfl⟩
      · exact r.main m
/-! read as data -/
theorem PFOk.rep {v : V} {x : PF} (h : PFOk K F G H v x) (eg : Same G (DL.rem F H)) : Rep K (DL.rem F H) v x.dt := by
  cases x with
  | dat d => exact Rep.mono eg h
  | lst q ds =>
    obtain ⟨rfl, g, f, vs, hp, r⟩ := h
    exact .lst (.inl (.inl (by rw [rem_of f]; exact hp))) (r.mono eg)
  | dic q w kvs =>
    obtain ⟨rfl, g, f, xs, hp, r⟩ := h
    exact .dic (by rw [rem_of f]; exact hp) (r.mono eg)
theorem PFsOk.rep : ∀ {vs : List (Str × V)} {fs : List (Str × PF)}, PFsOk K F G H vs fs → Same G (DL.rem F H) → RepF K (DL.rem F H) vs (fs.map fun f => (f.1, f.2.dt))
  | [], [], _, _ => .nil
  | (a, v) :: vs, (b, x) :: fs, h, eg => by
    obtain ⟨e, h1, h2⟩ := h
    subst e
    exact .cons (h1.rep eg) (PFsOk.rep h2 eg)
  | [], _ :: _, h, _ => h.elim
  | _ :: _, [], h, _ => h.elim
def Sl.asDt : Sl → Option Dt
  | .own _ xs => some (.lst xs)
  | .obo _ C fs => some (.obj C fs)
  | .prv x => some x.dt
  | _ => none
theorem SlOk.rep {o : Option V} {s : Sl} {d : Dt} (h : SlOk K F G H o s) (e : s.asDt = some d) (eg : Same G (DL.rem F H)) : ∃ v, o = some v ∧ Rep K (DL.rem F H) v d := by
  cases s with
  | un => cases e
  | d x => cases e
  | own b xs =>
    cases e
    obtain ⟨p, vs, eo, g, f, hp, r, an⟩ := h
    exact ⟨_, eo, .lst (.inl (.inl (by rw [rem_of f]; exact hp))) (r.mono eg)⟩
  | obo b C fs =>
    cases e
    obtain ⟨p, dx, vs, eo, g, f, hp, r, an⟩ := h
    exact ⟨_, eo, .obj (by rw [rem_of f]; exact hp) (r.mono eg)⟩
  | prv x =>
    cases e
    obtain ⟨_, h⟩ := h
    cases x with
    | dct q w kvs =>
      obtain ⟨v, e, h⟩ := h
      exact ⟨v, e, PFOk.rep h eg⟩
    | obj p C fs =>
      obtain ⟨e, g, f, dx, vs, hp, r⟩ := h
      exact ⟨_, e, .obj (by rw [rem_of f]; exact hp) (r.rep eg)⟩
/-- what is one's own, read as data -/
def Brw2 : List Sl → List Sl → Prop
  | [], [] => True
  | a :: as, b :: bs => (b = .un ∨ (a = b ∧ a.isOwn = false) ∨ ∃ d, a.asDt = some d ∧ b = .d d) ∧ Brw2 as bs
  | _, _ => False
theorem Brw2.len : ∀ {as bs : List Sl}, Brw2 as bs → as.length = bs.length
  | [], [], _ => rfl
  | _ :: _, _ :: _, h => congrArg (· + 1) (Brw2.len h.2)
  | [], _ :: _, h => h.elim
  | _ :: _, [], h => h.elim
theorem Brw2.get : ∀ {as bs : List Sl} {i : Nat} {b : Sl}, Brw2 as bs → bs[i]? = some b → ∃ a, as[i]? = some a ∧ (b = .un ∨ (a = b ∧ a.isOwn = false) ∨ ∃ d, a.asDt = some d ∧ b = .d d)
  | [], [], _, _, _, e => by simp at e
  | a :: as, b :: bs, 0, c, h, e => by simp at e; subst e; exact ⟨a, rfl, h.1⟩
  | a :: as, b :: bs, i + 1, c, h, e => by
    obtain ⟨x, h1, h2⟩ := Brw2.get (i := i) h.2 (by simpa using e)
    exact ⟨x, by simpa using h1, h2⟩
  | [], _ :: _, _, _, h, _ => h.elim
  | _ :: _, [], _, _, h, _ => h.elim
theorem Stt.borrow2 (s : Stt K F G H σ es) (b : Brw2 es es') : Stt K F (DL.rem F H) H σ es' where
  f := s.f
  g := fun a o e => (rem_some e).1
  dj := fun a o e => by
    unfold DL.rem
    rw [e]
  len := by rw [s.len, b.len]
  sl := fun i t e => by
    obtain ⟨a, ea, q⟩ := b.get e
    obtain ⟨o, ho, k⟩ := s.sl i a ea
    refine ⟨o, ho, ?_⟩
    rcases q with rfl | ⟨rfl, q⟩ | ⟨d, ed, rfl⟩
    · trivial
    · cases a with
      | un => trivial
      | d x =>
        obtain ⟨v, e, r⟩ := k
        exact ⟨v, e, r.mono (same_remF s)⟩
      | own p xs => cases q
      | obo p C fs => cases q
      | prv x => cases q
    · exact k.rep ed (same_remF s)
  sp := fun i j t u x y a ne ei ej hi hj ha hb => by
    obtain ⟨c, _, q⟩ := b.get ei
    rcases q with rfl | ⟨rfl, q⟩ | ⟨d, ed, rfl⟩
    · exact ha
    · cases c with
      | un => exact ha
      | d _ => exact ha
      | _ => cases q
    · exact ha
variable {te : TE} {tt : TT} {d : Dt} {ds : List Dt}
theorem ev_borrow2 (b : Brw2 es es') (h : Ev K te es' d) (hd : Flat d) : Ev K te es d := fun F G H σ s Q q =>
  h F _ H σ (s.borrow2 b) _ fun v G1 H1 s1 g1 r1 => q v G H1 (s.grown (same_all s s1.f s1.g g1)) (Same.refl _) (hd K _ _ v r1)
theorem et_borrow2 {c : Bool} (b : Brw2 es es') (h : EvT K tt es' c) : EvT K tt es c := fun F G H σ s Q q =>
  h F _ H σ (s.borrow2 b) _ fun G1 H1 s1 g1 => q G H1 (s.grown (same_all s s1.f s1.g g1)) (Same.refl _)
/-! results that are made of tuples alone -/
mutual
inductive LT : Dt → Prop
  | non : LT .non
  | bl (b : Bool) : LT (.bl b)
  | int (i : Int) : LT (.int i)
  | str (s : Str) : LT (.str s)
  | tup {ds : List Dt} : LTs ds → LT (.tup ds)
inductive LTs : List Dt → Prop
  | nil : LTs []
  | cons {d : Dt} {ds : List Dt} : LT d → LTs ds → LTs (d :: ds)
end
theorem LTs.map {α : Type} {em : α → Dt} (h : ∀ x, LT (em x)) : ∀ xs : List α, LTs (xs.map em)
  | [] => .nil
  | x :: xs => .cons (h x) (LTs.map h xs)
theorem lt_opt {α : Type} {e : α → Dt} (h : ∀ x, LT (e x)) : ∀ x, LT (dO e x)
  | none => .non
  | some a => h a
theorem LT.t {ds : List Dt} (h : LT (.tup ds)) : LTs ds := by cases h with | tup h => exact h
theorem LTs.h {d : Dt} {ds : List Dt} (h : LTs (d :: ds)) : LT d := by cases h with | cons a b => exact a
theorem LTs.t {d : Dt} {ds : List Dt} (h : LTs (d :: ds)) : LTs ds := by cases h with | cons a b => exact b
/-- G1 without what a slot may own, and G has not -/
def noP (G G1 : Hp) : Hp := fun a => match G1 a with
  | some u => if mainO u = true then G a else some u
  | none => none
theorem noP_of {a : Addr} {o : HO} (h : G1 a = some o) (n : mainO o = false) : noP G G1 a = some o := by
  unfold noP
  rw [h]
  show (if mainO o = true then G a else some o) = some o
  rw [n]
  rfl
theorem noP_main {a : Addr} {o : HO} (h : G1 a = some o) (n : mainO o = true) : noP G G1 a = G a := by
  unfold noP
  rw [h]
  exact if_pos n
theorem noP_sub (g : Same G H1) (g1 : Same G1 H1) : Same (noP G G1) H1 := fun a o e => by
  unfold noP at e
  cases q : G1 a with
  | none => rw [q] at e; cases e
  | some u =>
    rw [q] at e
    have e : (if mainO u = true then G a else some u) = some o := e
    by_cases c : mainO u = true
    · rw [if_pos c] at e
      exact g a o e
    · rw [if_neg c] at e
      cases e
      exact g1 a _ q
theorem noP_sup (g : Same G G1) : Same G (noP G G1) := fun a o e => by
  have q := g a o e
  unfold noP
  rw [q]
  show (if mainO o = true then G a else some o) = some o
  by_cases c : mainO o = true
  · rw [if_pos c]; exact e
  · rw [if_neg c]
theorem sqT_noP {a : Addr} {xs : List V} (h : SqT K G1 a xs) : SqT K (noP G G1) a xs := by
  rcases h with (h | ⟨o, h⟩) | h
  · exact .inl (.inl (noP_of h rfl))
  · exact .inl (.inr ⟨o, noP_of h rfl⟩)
  · exact .inr h
mutual
theorem rep_noP : ∀ {v : V} {d : Dt}, Rep K G1 v d → LT d → Rep K (DL.noP G G1) v d
  | _, _, .non, _ => .non
  | _, _, .bl b, _ => .bl b
  | _, _, .int i, _ => .int i
  | _, _, .str s, _ => .str s
  | _, _, .ty n, l => by cases l
  | _, _, .tup h r, l => .tup (sqT_noP h) (reps_noP r l.t)
  | _, _, .lst _ _, l => by cases l
  | _, _, .obj h r, l => by cases l
  | _, _, .dic h r, l => by cases l
theorem reps_noP : ∀ {vs : List V} {ds : List Dt}, Reps K G1 vs ds → LTs ds → Reps K (DL.noP G G1) vs ds
  | _, _, .nil, _ => .nil
  | _, _, .cons h r, l => .cons (rep_noP h l.h) (reps_noP r l.t)
end
/-- what is one's own is read by a call whose result is made of tuples -/
theorem ev_lend2 (b : Brw2 es es') (h : Ev K te es' d) (hd : LT d) : Ev K te es d := fun F G H σ s Q q =>
  h F _ H σ (s.borrow2 b) _ fun v G1 H1 s1 g1 r1 => by
    have sm : Same H H1 := same_all s s1.f s1.g g1
    have gg : Same G G1 := fun a o e => g1 a o (same_remF s a o e)
    refine q v (DL.noP G G1) H1 ⟨s1.f, noP_sub (s.g.trans sm) s1.g, fun a o e => ?_, s.len, fun i t e => ?_, s.sp⟩ (noP_sup gg) (rep_noP r1 hd)
    · have := s1.dj a o e
      unfold DL.noP
      rw [this]
    · obtain ⟨o, ho, k⟩ := s.sl i t e
      refine ⟨o, ho, k.tr (noP_sup gg) fun a m g f => ?_⟩
      obtain ⟨u, hu, mu⟩ := k.main m
      have : G1 a = some u := g1 _ _ (by rw [rem_of f]; exact hu)
      exact ⟨by rw [noP_main this mu]; exact g, f, fun w hw => sm _ _ hw⟩
end
/-! ### an own object turns to one with parts of its own -/
section
variable {K : PySem.W.Frag} {F G H : Hp} {σ : L2.St} {es es' : List Sl} {ρ : Type} {m : Option ρ} {oc : ρ → Res} {tz : TS} {p C : Addr}
theorem repF_pf : ∀ {vs : List (Str × V)} {fs : List (Str × Dt)}, RepF K G vs fs → PFsOk K F G H vs (fs.map fun f => (f.1, PF.dat f.2))
  | _, _, .nil => trivial
  | _, _, .cons h r => ⟨rfl, h, repF_pf r⟩
theorem dat_adr : ∀ (fs : List (Str × Dt)), (fs.map fun f => (f.1, PF.dat f.2)).flatMap (fun f => f.2.adr) = []
  | [] => rfl
  | _ :: fs => dat_adr fs
theorem Stt.toPrv {i : Nat} {fs : List (Str × Dt)} (s : Stt K F G H σ es) (hi : es[i]? = some (.obo (some p) C fs)) : Stt K F G H σ (es.set i (.prv (.obj p C (fs.map fun f => (f.1, PF.dat f.2))))) where
  f := s.f
  g := s.g
  dj := s.dj
  len := by rw [List.length_set]; exact s.len
  sl := fun j t e => by
    by_cases q : i = j
    · subst q
      rw [List.getElem?_set_self (List.getElem?_eq_some_iff.mp hi).1] at e
      cases e
      obtain ⟨o, ho, p', dx, vs, eo, g, f, hp, r, an⟩ := s.sl i _ hi
      obtain rfl := an p rfl
      refine ⟨o, ho, ?_, eo, g, f, dx, vs, hp, repF_pf r⟩
      show (p :: _).Nodup
      rw [dat_adr]
      exact List.nodup_cons.mpr ⟨(fun z => nomatch z), List.nodup_nil⟩
    · rw [List.getElem?_set_ne q] at e
      exact s.sl j t e
  sp := by
    obtain ⟨o0, ho0, p', dx, vs, eo, g, f, hp, r, an⟩ := s.sl i _ hi
    obtain rfl := an p rfl
    refine sp_of s.sp fun j u x a ej hj h => ?_
    by_cases q : i = j
    · subst q
      rw [List.getElem?_set_self (List.getElem?_eq_some_iff.mp hi).1] at ej
      cases ej
      rw [ho0] at hj
      cases hj
      have h : a ∈ p :: (fs.map fun f => (f.1, PF.dat f.2)).flatMap (fun f => f.2.adr) := h
      rw [dat_adr] at h
      rw [List.mem_singleton.mp h]
      exact ⟨_, _, hi, ho0, eo⟩
    · rw [List.getElem?_set_ne q] at ej
      exact ⟨u, x, ej, hj, h⟩
theorem sm_toPrv {t : TS} {i : Nat} {fs : List (Str × Dt)} (hi : es[i]? = some (.obo (some p) C fs)) (he : es.set i (.prv (.obj p C (fs.map fun f => (f.1, PF.dat f.2)))) = es') (k : SM K t es' m oc) : SM K t es m oc := fun r e F G H σ D s q =>
  k r e F G H σ D (he ▸ s.toPrv hi) q
end
/-! ### d[k] = v, the dict in a field -/
def putDC (kvs : List (Dt × Dt)) (ds : List Dt) (d : Dt) : Option (List (Dt × Dt)) := (nkC (.tup ds)).bind fun k => if kvs.length ≤ 5000000 then some (putK2 kvs k (.tup ds) d) else none
theorem repK_len {K : PySem.W.Frag} {G : Hp} : ∀ {xs : NX} {kvs : List (Dt × Dt)}, RepK K G xs kvs → xs.length = kvs.length
  | _, _, .nil => rfl
  | _, _, .cons _ _ _ _ r => congrArg (· + 1) (repK_len r)
section
variable {K : PySem.W.Frag} {F G H G' H' F' : Hp} {σ : L2.St} {es es' : List Sl} {ρ : Type} {m : Option ρ} {oc : ρ → Res} {tz : TS} {p C q : Addr} {as bs : List (Str × PF)} {f : Str} {w : World} {kvs kvs' : List (Dt × Dt)} {te tk : TE} {d : Dt} {ds : List Dt} {i : Nat}
theorem PFsOk.split : ∀ {as : List (Str × PF)} {vs : List (Str × V)} {y : Str × PF} {bs : List (Str × PF)}, PFsOk K F G H vs (as ++ y :: bs) → ∃ vs1 v vs2, vs = vs1 ++ (y.1, v) :: vs2 ∧ PFsOk K F G H vs1 as ∧ PFOk K F G H v y.2 ∧ PFsOk K F G H vs2 bs
  | [], (a, v) :: vs, (b, x), bs, h => by
    obtain ⟨e, h1, h2⟩ := h
    subst e
    exact ⟨[], v, vs, rfl, trivial, h1, h2⟩
  | [], [], _, _, h => h.elim
  | (b, x) :: as, (a, v) :: vs, y, bs, h => by
    obtain ⟨e, h1, h2⟩ := h
    obtain ⟨vs1, u, vs2, rfl, k1, k2, k3⟩ := PFsOk.split (as := as) h2
    exact ⟨(a, v) :: vs1, u, vs2, rfl, ⟨e, h1, k1⟩, k2, k3⟩
  | _ :: _, [], _, _, h => h.elim
theorem PFsOk.join : ∀ {as : List (Str × PF)} {vs1 vs2 : List (Str × V)} {v : V} {y : Str × PF} {bs : List (Str × PF)}, PFsOk K F G H vs1 as → PFOk K F G H v y.2 → PFsOk K F G H vs2 bs → PFsOk K F G H (vs1 ++ (y.1, v) :: vs2) (as ++ y :: bs)
  | [], [], vs2, v, y, bs, _, h2, h3 => ⟨rfl, h2, h3⟩
  | [], _ :: _, _, _, _, _, h, _, _ => h.elim
  | _ :: _, [], _, _, _, _, h, _, _ => h.elim
  | (b, x) :: as, (a, u) :: vs1, vs2, v, y, bs, h1, h2, h3 => ⟨h1.1, h1.2.1, PFsOk.join (as := as) h1.2.2 h2 h3⟩
theorem PFsOk.look : ∀ {as : List (Str × PF)} {vs1 : List (Str × V)} {v : V} {vs2 : List (Str × V)}, PFsOk K F G H vs1 as → (∀ y ∈ as, y.1 ≠ f) → (vs1 ++ (f, v) :: vs2).lookup f = some v
  | [], [], v, vs2, _, _ => by rw [List.nil_append, List.lookup_cons, beq_self_eq_true]
  | [], _ :: _, _, _, h, _ => h.elim
  | _ :: _, [], _, _, h, _ => h.elim
  | (b, x) :: as, (a, u) :: vs1, v, vs2, h, n => by
    obtain ⟨e, _, h2⟩ := h
    subst e
    have : (f == a) = false := beq_eq_false_iff_ne.mpr (Ne.symm (n _ (List.mem_cons_self ..)))
    rw [List.cons_append, List.lookup_cons, this]
    exact PFsOk.look (as := as) h2 fun y m => n y (List.mem_cons_of_mem _ m)
theorem adr_swap {x y : PF} (e : x.adr = y.adr) (p C : Addr) (as bs : List (Str × PF)) (f : Str) : (PX.obj p C (as ++ (f, x) :: bs)).adr = (PX.obj p C (as ++ (f, y) :: bs)).adr := by
  show p :: _ = p :: _
  rw [List.flatMap_append, List.flatMap_append, List.flatMap_cons, List.flatMap_cons]
  show p :: (_ ++ (x.adr ++ _)) = p :: (_ ++ (y.adr ++ _))
  rw [e]
/-- the slot's state when a part of its object is written -/
theorem Stt.wrotePF {x y : PF} {u : HO} (s : Stt K F G H σ es) (hi : es[i]? = some (.prv (.obj p C (as ++ (f, x) :: bs)))) (hx : x.adr = [q]) (hy : y.adr = [q]) (hn : ∀ v, PFOk K F G H v x → PFOk K F G (upd H q u) v y) : Stt K F G (upd H q u) σ (es.set i (.prv (.obj p C (as ++ (f, y) :: bs)))) := by
  obtain ⟨o0, ho0, nd, e0, g0, f0, dx, vs, hp, r⟩ := s.sl i _ hi
  have inq : q ∈ (PX.obj p C (as ++ (f, x) :: bs)).adr := List.mem_cons_of_mem _ (by
    rw [List.flatMap_append, List.flatMap_cons]
    exact List.mem_append_right _ (List.mem_append_left _ (by show q ∈ x.adr; rw [hx]; exact List.mem_singleton.mpr rfl)))
  obtain ⟨gq, fq, u0, hq0⟩ := (show PXOk K F G H o0 _ from ⟨nd, e0, g0, f0, dx, vs, hp, r⟩).at inq
  have nd' : (p :: (as.flatMap (fun f => f.2.adr) ++ (q :: bs.flatMap fun f => f.2.adr))).Nodup := by
    have e : (PX.obj p C (as ++ (f, x) :: bs)).adr = p :: (as.flatMap (fun f => f.2.adr) ++ (q :: bs.flatMap fun f => f.2.adr)) := by
      show p :: _ = _
      rw [List.flatMap_append, List.flatMap_cons]
      show p :: (_ ++ (x.adr ++ _)) = _
      rw [hx]
      rfl
    rw [← e]
    exact nd
  obtain ⟨np, nd2⟩ := List.nodup_cons.mp nd'
  have pq : p ≠ q := fun z => np (by rw [z]; exact List.mem_append_right _ (List.mem_cons_self ..))
  obtain ⟨_, nb, nab⟩ := List.nodup_append.mp nd2
  have qa : ∀ a ∈ as.flatMap (fun f => f.2.adr), a ≠ q := fun a m => nab a m q (List.mem_cons_self ..)
  have qb : ∀ a ∈ bs.flatMap (fun f => f.2.adr), a ≠ q := fun a m z => (List.nodup_cons.mp nb).1 (z ▸ m)
  refine ⟨fun a o e => ?_, fun a o e => ?_, s.dj, by rw [List.length_set]; exact s.len, fun j t e => ?_, sp_setK s.sp hi fun z a h => ?_⟩
  · rw [upd_ne (ne_of_none e fq)]; exact s.f a o e
  · rw [upd_ne (ne_of_none e gq)]; exact s.g a o e
  · by_cases z : i = j
    · subst z
      rw [List.getElem?_set_self (List.getElem?_eq_some_iff.mp hi).1] at e
      cases e
      obtain ⟨vs1, v, vs2, rfl, k1, k2, k3⟩ := r.split
      refine ⟨o0, ho0, by rw [← adr_swap (hx.trans hy.symm)]; exact nd, e0, g0, f0, dx, _, by rw [upd_ne pq]; exact hp, PFsOk.join (y := (f, y)) ?_ (hn v k2) ?_⟩
      · exact k1.tr (Same.refl _) fun a m g f => ⟨g, f, fun w hw => by rw [upd_ne (qa a m)]; exact hw⟩
      · exact k3.tr (Same.refl _) fun a m g f => ⟨g, f, fun w hw => by rw [upd_ne (qb a m)]; exact hw⟩
    · rw [List.getElem?_set_ne z] at e
      obtain ⟨o, ho, k⟩ := s.sl j t e
      refine ⟨o, ho, k.tr (Same.refl _) fun a m g f => ⟨g, f, fun w hw => ?_⟩⟩
      have : a ≠ q := fun zz => by
        subst zz
        exact s.sp i j _ t _ _ a z hi e ho0 ho inq m
      rw [upd_ne this]
      exact hw
  · show a ∈ (PX.obj p C (as ++ (f, x) :: bs)).adr
    rw [adr_swap (hx.trans hy.symm)]
    exact h
/-- self.f[k] = v, a dict -/
theorem sm_setPD (hi : es[i]? = some (.prv (.obj p C (as ++ (f, .dic q w kvs) :: bs)))) (hc : Cls K C) (hna : NoAttr K C f) (hf : ∀ y ∈ as, y.1 ≠ f) (hv : Ev K te es d) (hk : Ev K tk es (.tup ds)) (hm : putDC kvs ds d = some kvs')
    (he : es.set i (.prv (.obj p C (as ++ (f, .dic q w kvs') :: bs))) = es') (k : SM K tz es' m oc) : SM K (tSeq (tAsg te (gSub (tFld K (tVar i) f) tk (rSetN K w))) tz) es m oc := fun r e F G H σ D s qd => by
  subst he
  unfold putDC at hm
  cases hn : nkC (.tup ds) with
  | none => rw [hn] at hm; cases hm
  | some kk =>
    rw [hn] at hm
    obtain ⟨hl, rfl⟩ := ite_some (show (if kvs.length ≤ 5000000 then some (putK2 kvs kk (.tup ds) d) else none) = some kvs' from hm)
    refine hv F G H σ s _ fun v G1 H1 s1 g1 r1 => ?_
    obtain ⟨o1, ho1, nd1, e1, gp1, fp1, dx1, vs1, hp1, rr1⟩ := s1.sl i _ hi
    subst e1
    obtain ⟨va, vq, vb, rfl, a1, a2, a3⟩ := rr1.split
    obtain ⟨eq1, _, _, xs1, hq1, rk1⟩ := a2
    have eq1 : vq = .ref q := eq1
    subst eq1
    refine ⟨.ref p, ho1, p, C, dx1, _, .ref q, rfl, hp1, hc, hna, a1.look hf, ?_⟩
    refine hk F G1 H1 σ s1 _ fun u G2 H2 s2 g2 r2 => ?_
    cases r2 with
    | @tup b ys _ hs rs =>
      obtain ⟨o2, ho2, nd2, e2, gp2, fp2, dx2, vs2, hp2, rr2⟩ := s2.sl i _ hi
      rw [ho1] at ho2
      cases ho2
      obtain ⟨vc, vr, vd, rfl, b1, b2, b3⟩ := rr2.split
      obtain ⟨eq2, gq2, fq2, xs2, hq2, rk2⟩ := b2
      obtain ⟨kd, k8⟩ := nkC_of hn
      have sz : (10000000 : Nat) < sizeLine := by decide
      have rt : Rep K G2 (.ref b) (.tup ds) := .tup hs rs
      refine ⟨q, xs2, kk, b, rfl, hq2, repK_all rk2 s2.g, rfl, rep_nk (rt.mono s2.g) kd, k8, by rw [repK_len rk2]; omega, ?_⟩
      have st := s2.wrotePF (u := NDO w q (putN xs2 kk b v)) (y := .dic q w (putK2 kvs kk (.tup ds) d)) hi rfl rfl fun v' h => by
        obtain ⟨ee, gg, ff, xs, hx, rk⟩ := h
        rw [hq2] at hx
        have hx : NDO w q xs2 = NDO w q xs := Option.some.inj hx
        exact ⟨ee, gg, ff, putN xs2 kk b v, upd_same, repK_put rk2 kd k8 rt (r1.mono g2)⟩
      exact k r e F G2 _ σ D st (qd.up (g1.trans g2))
end
end DL

/-! Dl36: calls of methods that write to their object's parts; objects with such parts are made -/
namespace DL
open PySem L2
/-- what is not known, but the addresses A -/
def remA (G H : Hp) (A : List Addr) : Hp := fun a => if a ∈ A then none else DL.rem G H a
theorem remA_some {G H : Hp} {A : List Addr} {x : Addr} {o : HO} (h : remA G H A x = some o) : x ∉ A ∧ H x = some o ∧ G x = none := by
  unfold remA at h
  by_cases c : x ∈ A
  · rw [if_pos c] at h; cases h
  · rw [if_neg c] at h
    exact ⟨c, rem_some h⟩
theorem remA_of {G H : Hp} {A : List Addr} {x : Addr} (h : x ∉ A) (g : G x = none) : remA G H A x = H x := by
  unfold remA
  rw [if_neg h]
  exact rem_of g
theorem remA_in {G H : Hp} {A : List Addr} {x : Addr} (h : x ∈ A) : remA G H A x = none := if_pos h
/-- an object with parts of its own, then data -/
def RMp (C : Addr) (P : List (Str × PF) → List Dt → Dt → List (Str × PF) → Prop) : List Sl → Dt → List Sl → Prop := fun ss d ss' => ∃ p fs ds gs, ss = .prv (.obj p C fs) :: ds.map .d ∧ ss' = .prv (.obj p C gs) :: ds.map .d ∧ fs.flatMap (fun f => f.2.adr) = gs.flatMap (fun f => f.2.adr) ∧ P fs ds d gs
section
variable {K : PySem.W.Frag} {F F' G H G' H' : Hp} {σ : L2.St} {es es1 es' : List Sl} {x y : PX} {vs : List V} {ds : List Dt}
theorem prv_data {v : V} (f : Same F H) (g : Same G H) (dj : ∀ a o, F a = some o → G a = none) (k : PXOk K F G H (some v) x) (r : Reps K G vs ds) : Stt K F G H ((v :: vs).map some) (.prv x :: ds.map .d) := by
  have base := stt_data f g dj r
  refine ⟨f, g, dj, by rw [List.map_cons, List.length_cons, List.length_cons, base.len], fun i t e => ?_, sp_one⟩
  cases i with
  | zero =>
    cases e
    exact ⟨_, rfl, k⟩
  | succ i => exact base.sl i t e
theorem PXOk.val {o : Option V} {p C : Addr} {fs : List (Str × PF)} (h : PXOk K F G H o (.obj p C fs)) : o = some (.ref p) := h.2.1
theorem PFsOk.lookup_none : ∀ {vs : List (Str × V)} {fs : List (Str × PF)} {f : Str}, PFsOk K F G H vs fs → fs.lookup f = none → vs.lookup f = none
  | [], [], _, _, _ => rfl
  | (a, v) :: vs, (b, x) :: fs, f, h, e => by
    obtain ⟨q, _, h2⟩ := h
    subst q
    rw [List.lookup_cons] at e ⊢
    cases z : f == a with
    | true => rw [z] at e; cases e
    | false => rw [z] at e; exact PFsOk.lookup_none h2 e
  | [], _ :: _, _, h, _ => h.elim
  | _ :: _, [], _, h, _ => h.elim
/-- behind a call that was given slot i's object -/
theorem Stt.wroteP {o : Option V} {i : Nat} (s : Stt K F G H σ es) (hi : es[i]? = some (.prv x)) (ho : σ[i]? = some o) (f : Same (remA G H x.adr) H') (g : Same G' H') (dj : ∀ a u, remA G H x.adr a = some u → G' a = none) (gg : Same G G') (ea : x.adr = y.adr) (k : PXOk K (remA G H x.adr) G' H' o y) : Stt K F G' H' σ (es.set i (.prv y)) := by
  have hlt := (List.getElem?_eq_some_iff.mp hi).1
  obtain ⟨o0, ho0, k0⟩ := s.sl i _ hi
  rw [ho] at ho0
  cases ho0
  have k0 : PXOk K F G H o x := k0
  have up : ∀ a u, F a = some u → remA G H x.adr a = some u := fun a u e => by
    have : a ∉ x.adr := fun m => by rw [(k0.at m).2.1] at e; cases e
    rw [remA_of this (s.dj a u e)]
    exact s.f a u e
  refine ⟨fun a u e => f a u (up a u e), g, fun a u e => dj a u (up a u e), by rw [List.length_set]; exact s.len, fun j t e => ?_, sp_setK s.sp hi fun z a h => by
    show a ∈ x.adr
    rw [ea]
    exact h⟩
  by_cases q : i = j
  · subst q
    rw [List.getElem?_set_self hlt] at e
    cases e
    exact ⟨o, ho, k.tr (Same.refl _) fun a m g1 _ => ⟨g1, (k0.at (ea ▸ m)).2.1, fun w hw => hw⟩⟩
  · rw [List.getElem?_set_ne q] at e
    obtain ⟨z, hz, kz⟩ := s.sl j t e
    refine ⟨z, hz, kz.tr gg fun a m g1 f1 => ?_⟩
    have na : a ∉ x.adr := fun mm => s.sp i j _ t _ _ a q hi e ho hz mm m
    obtain ⟨_, _, u, hu⟩ := kz.at m
    have mm := remA_of (G := G) (H := H) na g1
    rw [hu] at mm
    exact ⟨dj _ _ mm, f1, fun w hw => by rw [hu] at hw; cases hw; exact f _ _ mm⟩
variable {te : TE} {t : TA} {d : Dt} {C p : Addr} {us us0 gs : List (Str × PF)}
theorem evm_methP {P : List (Str × PF) → List Dt → Dt → List (Str × PF) → Prop} {E : XK} {i : Nat} {m : Str} (hi0 : es[i]? = some (.prv (.obj p C us0))) (hm : us0.lookup m = none) (ha : EvMA K t es es1 ds) (hi : es1[i]? = some (.prv (.obj p C us))) (hP : P us ds d gs) (hA : us.flatMap (fun f => f.2.adr) = gs.flatMap (fun f => f.2.adr)) (he : es1.set i (.prv (.obj p C gs)) = es') :
    EvM K (tMeth C m (FSpec K (RMp C P)) [] E (tVar i) t) es es' d := fun F G H σ s Q q => by
  subst he
  obtain ⟨o0, ho0, nd0, e0, g0, f0, dx0, ws0, h0, r0⟩ := s.sl i _ hi0
  subst e0
  refine ⟨_, ho0, p, dx0, ws0, rfl, h0, r0.lookup_none hm, ha F G H σ s _ fun vs G1 H1 s1 g1 r1 => ?_⟩
  rw [List.append_nil]
  obtain ⟨o1, ho1, k1⟩ := s1.sl i _ hi
  have k1 : PXOk K F G1 H1 o1 (.obj p C us) := k1
  have e1 := k1.val
  subst e1
  have kc : PXOk K (remA G1 H1 (PX.obj p C us).adr) G1 H1 (some (.ref p)) (.obj p C us) := k1.tr (Same.refl _) fun a m g f => ⟨g, remA_in m, fun w hw => hw⟩
  have ea : (PX.obj p C us).adr = (PX.obj p C gs).adr := congrArg (p :: ·) hA
  refine ⟨remA G1 H1 (PX.obj p C us).adr, G1, .prv (.obj p C us) :: ds.map .d, d, .prv (.obj p C gs) :: ds.map .d, prv_data (fun a o e => (remA_some e).2.1) s1.g (fun a o e => (remA_some e).2.2) kc r1, ⟨p, us, ds, gs, rfl, rfl, hA, hP⟩, fun v G2 H2 s2 g2 r2 => ?_⟩
  obtain ⟨o2, ho2, k2⟩ := s2.sl 0 _ rfl
  cases ho2
  exact q v G2 H2 (s1.wroteP hi ho1 s2.f s2.g s2.dj g2 ea k2) (g1.trans g2) r2
end
section
open PyProof.Rows
variable {P : Program} {w : World} {K : PySem.W.Frag} {mg : Str → Option Value} {base : Heap}
/-- a method that writes to its object's parts -/
theorem fn_P {x qual : Str} {st : Stmt} {f : Addr} {fd : FuncData} {N ps : List Str} {k : Nat} {C : Addr} {R : List (Str × PF) → List Dt → Dt → List (Str × PF) → Prop} (F : Fun K x qual st f fd) (S : FnScope N ps (defScope st)) (hl : ∀ xs ds d ys, R xs ds d ys → ds.length + 1 = ps.length)
    (body : ∀ (cdv : Value) (A : Around) (outer : List Env) (s : Shared) (H : Hp) (E : XK), Room k (A.deeper (PyProof.Rows.envOfC qual (defScope st) s.heap.objs.size f cdv)) →
      ∃ t, PSs (cxOf CX0 P w K mg base N qual (defScope st) f cdv A outer s H E).nox (defBody st) t ∧ ∀ p xs ds d ys, R xs ds d ys → ∃ o es, SEv K t (.prv (.obj p C xs) :: ds.map .d ++ List.replicate (N.length - ps.length) .un) o ∧ Ends2 d (.prv (.obj p C ys) :: es) o) :
    FnOk P w K mg base CX0 (k + 1) f fd ps (FSpec K (RMp C R)) := by
  refine F.ok S (fun vs H Q E h => ?_) (fun cdv A outer s H vs Q E hr h => ?_)
  · obtain ⟨F, G, ss, d, ss', s, ⟨p, xs, ds, ys, rfl, _, _, hR⟩, _⟩ := h
    have := s.len
    rw [List.length_map, List.length_cons, List.length_map, hl xs ds d ys hR] at this
    exact this
  · obtain ⟨t, ht, hb⟩ := body cdv A outer s H E hr
    refine ⟨t, ht, ?_⟩
    obtain ⟨F1, G, ss, d, ss', st1, ⟨p, xs, ds, ys, rfl, rfl, hA, hR⟩, q⟩ := h
    obtain ⟨o, es, hs, he⟩ := hb p xs ds d ys hR
    refine hs F1 G H _ _ (stt_start st1 (by rw [List.length_cons, List.length_map, hl xs ds d ys hR])) (good_end he fun v G' H' σ' s' g r => ?_)
    cases vs with
    | nil =>
      have := st1.len
      simp at this
    | cons v0 vs =>
      obtain ⟨o0, ho0, k0⟩ := st1.sl 0 _ rfl
      cases ho0
      have k0 : PXOk K F1 G H (some v0) (.obj p C xs) := k0
      cases k0.val
      obtain ⟨o1, ho1, k1⟩ := s'.sl 0 _ rfl
      have k1 : PXOk K F1 G' H' o1 (.obj p C ys) := k1
      have e1 := k1.val
      subst e1
      have rs : Reps K G vs ds := data_of (vs := vs) (ds := ds) (K := K) (F := F1) (G := G) (H := H) (by have := st1.len; simpa using this) fun i t e => st1.sl (i + 1) t e
      exact q v G' H' (prv_data s'.f s'.g s'.dj k1 (rs.mono g)) g r
end
/-! ### objects with parts of their own are made -/
/-- a spec whose slots at the end hang on addresses that no one knows ahead -/
def FSpecQ (K : PySem.W.Frag) (R : List Sl → Dt → (List Addr → List Sl) → Prop) : Sp := fun vs H Q _ => ∃ F G ss d ss', Stt K F G H (vs.map some) ss ∧ R ss d ss' ∧
  ∀ qs v G' H', Stt K F G' H' (vs.map some) (ss' qs) → Same G G' → Rep K G' v d → Q v H'
def RQ (C : Addr) (P : List Dt → (List Addr → List (Str × PF)) → Prop) : List Sl → Dt → (List Addr → List Sl) → Prop := fun ss d ss' => ∃ p ds fs, ss = .obo (some p) C [] :: ds.map .d ∧ d = .non ∧ ss' = (fun qs => .prv (.obj p C (fs qs)) :: ds.map .d) ∧ P ds fs
section
open PyProof.Rows
variable {P : Program} {w : World} {K : PySem.W.Frag} {mg : Str → Option Value} {base : Heap}
theorem fn_Q {x qual : Str} {st : Stmt} {f : Addr} {fd : FuncData} {N ps : List Str} {k : Nat} {C : Addr} {R : List Dt → (List Addr → List (Str × PF)) → Prop} (F : Fun K x qual st f fd) (S : FnScope N ps (defScope st)) (hl : ∀ ds d, R ds d → ds.length + 1 = ps.length)
    (body : ∀ (cdv : Value) (A : Around) (outer : List Env) (s : Shared) (H : Hp) (E : XK), Room k (A.deeper (PyProof.Rows.envOfC qual (defScope st) s.heap.objs.size f cdv)) →
      ∃ t, PSs (cxOf CX0 P w K mg base N qual (defScope st) f cdv A outer s H E).nox (defBody st) t ∧ ∀ p ds fs, R ds fs → ∃ o, SEv K t (.obo (some p) C [] :: ds.map .d ++ List.replicate (N.length - ps.length) .un) o ∧ ∀ F G D, (∀ qs es, Good K F G D (.nx (.prv (.obj p C (fs qs)) :: es))) → Good K F G D o) :
    FnOk P w K mg base CX0 (k + 1) f fd ps (FSpecQ K (RQ C R)) := by
  refine F.ok S (fun vs H Q E h => ?_) (fun cdv A outer s H vs Q E hr h => ?_)
  · obtain ⟨F, G, ss, d, ss', s, ⟨p, ds, fs, rfl, _, _, hR⟩, _⟩ := h
    have := s.len
    rw [List.length_map, List.length_cons, List.length_map, hl ds fs hR] at this
    exact this
  · obtain ⟨t, ht, hb⟩ := body cdv A outer s H E hr
    refine ⟨t, ht, ?_⟩
    obtain ⟨F1, G, ss, d, ss', st1, ⟨p, ds, fs, rfl, rfl, rfl, hR⟩, q⟩ := h
    obtain ⟨o, hs, he⟩ := hb p ds fs hR
    refine hs F1 G H _ _ (stt_start st1 (by rw [List.length_cons, List.length_map, hl ds fs hR])) (he F1 G _ fun qs es G' H' σ' s' g => ?_)
    cases vs with
    | nil =>
      have := st1.len
      simp at this
    | cons v0 vs =>
      obtain ⟨o0, ho0, p0, dx0, fv0, e0, g0, f0, h0, r0, a0⟩ := st1.sl 0 _ rfl
      cases ho0
      cases e0
      obtain rfl := a0 p rfl
      obtain ⟨o1, ho1, k1⟩ := s'.sl 0 _ rfl
      have k1 : PXOk K F1 G' H' o1 (.obj p C (fs qs)) := k1
      have e1 := k1.val
      subst e1
      have rs : Reps K G vs ds := data_of (vs := vs) (ds := ds) (K := K) (F := F1) (G := G) (H := H) (by have := st1.len; simpa using this) fun i t e => st1.sl (i + 1) t e
      exact q qs .non G' H' (prv_data s'.f s'.g s'.dj k1 (rs.mono g)) g .non
end
def withA (F H : Hp) (A : List Addr) : Hp := fun a => if a ∈ A then H a else F a
/-- an expression that gives a new object with parts of its own -/
def EvP (K : PySem.W.Frag) (te : TE) (es : List Sl) (R : PX → Prop) : Prop := ∀ F G H σ, Stt K F G H σ es → ∀ Q : VK, (∀ x v G' H', R x → PXOk K F G' H' (some v) x → Stt K (withA F H' x.adr) G' H' σ es → Same G G' → Q v H') → te σ H Q
section
variable {K : PySem.W.Frag} {F G H : Hp} {σ : L2.St} {es es' : List Sl} {te : TE} {ta : TA} {ds : List Dt} {d : Dt} {C : Addr} {E E1 : XK}
theorem evP_make {P : List Dt → (List Addr → List (Str × PF)) → Prop} {fs : List Addr → List (Str × PF)} (ha : EvA K ta es ds) (hP : P ds fs) : EvP K (tMake C (FSpecQ K (RQ C P)) [] E ta) es (fun x => ∃ p qs, x = .obj p C (fs qs)) := fun F G H σ s Q q =>
  ha F G H σ s _ fun vs G1 H1 s1 g1 r1 x dx hx hdx ne => by
    have hx1 : upd H1 dx (.own x) x = none := by
      rw [upd_ne (fun z => ne z.symm)]
      exact hx
    have s2 : Stt K F G1 (upd (upd H1 dx (.own x)) x (.ins C dx [])) σ es := (s1.lay hdx).lay hx1
    have gx : G1 x = none := s1.gnone hx
    rw [List.append_nil]
    have h2 : ∀ a u, H1 a = some u → (upd (upd H1 dx (.own x)) x (.ins C dx [])) a = some u := fun a u e => by
      rw [upd_ne (ne_of_none e hx), upd_ne (ne_of_none e hdx)]
      exact e
    have base := stt_data (K := K) (F := remA G1 (upd (upd H1 dx (.own x)) x (.ins C dx [])) [x]) (fun a o e => (remA_some e).2.1) s2.g (fun a o e => (remA_some e).2.2) r1
    refine ⟨remA G1 (upd (upd H1 dx (.own x)) x (.ins C dx [])) [x], G1, .obo (some x) C [] :: ds.map .d, .non, fun qs => .prv (.obj x C (fs qs)) :: ds.map .d, ⟨base.f, base.g, base.dj, by rw [List.map_cons, List.length_cons, List.length_cons, base.len], fun i t e => ?_, sp_one⟩, ⟨x, ds, fs, rfl, rfl, rfl, hP⟩, ?_⟩
    · cases i with
      | zero =>
        cases e
        exact ⟨_, rfl, x, dx, [], rfl, gx, remA_in (List.mem_singleton.mpr rfl), upd_same, .nil, fun q e => (Option.some.inj e).symm⟩
      | succ i => exact base.sl i t e
    · intro qs v G2 H2 s3 g3 r3
      obtain ⟨o, ho, k⟩ := s3.sl 0 _ rfl
      cases ho
      have k : PXOk K (remA G1 (upd (upd H1 dx (.own x)) x (.ins C dx [])) [x]) G2 H2 (some (.ref x)) (.obj x C (fs qs)) := k
      refine ⟨by cases r3; rfl, ?_⟩
      have old : ∀ a u, H1 a = some u → G1 a = none → H2 a = some u ∧ G2 a = none := fun a u e g => by
        have na : a ∉ [x] := fun m => by rw [List.mem_singleton.mp m, hx] at e; cases e
        have m := remA_of (H := upd (upd H1 dx (.own x)) x (.ins C dx [])) na g
        rw [h2 a u e] at m
        exact ⟨s3.f _ _ m, s3.dj _ _ m⟩
      have fresh : ∀ a ∈ (PX.obj x C (fs qs)).adr, H1 a = none := fun a m => by
        obtain ⟨g, f, u, hu⟩ := k.at m
        cases z : H1 a with
        | none => rfl
        | some w =>
          cases y : G1 a with
          | some o => rw [g3 a o y] at g; cases g
          | none =>
            have na : a ∉ [x] := fun m => by rw [List.mem_singleton.mp m, hx] at z; cases z
            have mm := remA_of (H := upd (upd H1 dx (.own x)) x (.ins C dx [])) na y
            rw [h2 a w z, f] at mm
            cases mm
      have ff : ∀ a ∈ (PX.obj x C (fs qs)).adr, F a = none := fun a m => s1.fnone (fresh a m)
      have kF : PXOk K F G2 H2 (some (.ref x)) (.obj x C (fs qs)) := k.tr (Same.refl _) fun a m g _ => ⟨g, ff a m, fun w hw => hw⟩
      refine q (.obj x C (fs qs)) (.ref x) G2 H2 ⟨x, qs, rfl⟩ kF ⟨fun a o e => ?_, s3.g, fun a o e => ?_, s1.len, fun i t e => ?_, s1.sp⟩ (g1.trans g3)
      · unfold withA at e
        by_cases c : a ∈ (PX.obj x C (fs qs)).adr
        · rw [if_pos c] at e; exact e
        · rw [if_neg c] at e
          exact (old a o (s1.f a o e) (s1.dj a o e)).1
      · unfold withA at e
        by_cases c : a ∈ (PX.obj x C (fs qs)).adr
        · exact (kF.at c).1
        · rw [if_neg c] at e
          exact (old a o (s1.f a o e) (s1.dj a o e)).2
      · obtain ⟨o, ho, kk⟩ := s1.sl i t e
        refine ⟨o, ho, kk.tr g3 fun a m g f => ?_⟩
        obtain ⟨_, _, u, hu⟩ := kk.at m
        have na : a ∉ (PX.obj x C (fs qs)).adr := fun c => by rw [fresh a c] at hu; cases hu
        refine ⟨(old a u hu g).2, ?_, fun w hw => by rw [hu] at hw; cases hw; exact (old a u hu g).1⟩
        unfold withA
        rw [if_neg na]
        exact f
/-- a new object is put into a slot -/
theorem Stt.place {x : PX} {v : V} {i : Nat} (s : Stt K (withA F H x.adr) G H σ es) (k : PXOk K F G H (some v) x) : Stt K F G H (σ.set i (some v)) (es.set i (.prv x)) := by
  have up : ∀ a u, F a = some u → withA F H x.adr a = some u := fun a u e => by
    unfold withA
    rw [if_neg fun m => by rw [(k.at m).2.1] at e; cases e]
    exact e
  have dn : ∀ a, withA F H x.adr a = none → a ∉ x.adr ∧ F a = none := fun a e => by
    unfold withA at e
    by_cases c : a ∈ x.adr
    · rw [if_pos c] at e
      obtain ⟨_, _, u, hu⟩ := k.at c
      rw [hu] at e
      cases e
    · rw [if_neg c] at e
      exact ⟨c, e⟩
  refine ⟨fun a u e => s.f a u (up a u e), s.g, fun a u e => s.dj a u (up a u e), by rw [List.length_set, List.length_set]; exact s.len, fun j t e => ?_, sp_new s.sp i (fun a => a ∈ x.adr) (fun j u y a ej hj h => ?_) fun j u y a n ej hj h m => ?_⟩
  · by_cases q : i = j
    · subst q
      have hl := (List.getElem?_eq_some_iff.mp e).1
      rw [List.length_set] at hl
      rw [List.getElem?_set_self hl] at e
      cases e
      exact ⟨_, List.getElem?_set_self (by rw [s.len]; exact hl), k⟩
    · rw [List.getElem?_set_ne q] at e
      rw [List.getElem?_set_ne q]
      obtain ⟨o, ho, kk⟩ := s.sl j t e
      exact ⟨o, ho, kk.tr (Same.refl _) fun a m g f => ⟨g, (dn a f).2, fun w hw => hw⟩⟩
  · by_cases q : i = j
    · subst q
      have hl := (List.getElem?_eq_some_iff.mp ej).1
      rw [List.length_set] at hl
      rw [List.getElem?_set_self hl] at ej
      cases ej
      exact .inl ⟨rfl, h⟩
    · rw [List.getElem?_set_ne q] at ej hj
      exact .inr ⟨u, y, ej, hj, h⟩
  · obtain ⟨o, ho, kk⟩ := s.sl j u ej
    rw [hj] at ho
    cases ho
    exact (dn a (kk.at h).2.1).1 m
theorem sm_ownP {ρ : Type} {tz : TS} {m : Option ρ} {oc : ρ → Res} {i : Nat} {R : PX → Prop} (h : EvP K te es R) (k : ∀ x, R x → SM K tz (es.set i (.prv x)) m oc) : SM K (tSeq (tAsg te (gName i)) tz) es m oc := fun r e F G H σ D s q =>
  h F G H σ s _ fun x v G1 H1 hR kx s1 g1 => k x hR r e F G1 H1 _ D (s1.place kx) (q.up g1)
/-- C(..).m(..) -/
theorem ev_methT {P : List (Str × PF) → List Dt → Dt → List (Str × PF) → Prop} {m : Str} {R : PX → Prop} (h : EvP K te es R) (ha : EvA K ta es ds) (hR : ∀ x, R x → ∃ p fs gs, x = .obj p C fs ∧ fs.lookup m = none ∧ fs.flatMap (fun f => f.2.adr) = gs.flatMap (fun f => f.2.adr) ∧ P fs ds d gs) : Ev K (tMeth C m (FSpec K (RMp C P)) [] E te ta) es d := fun F G H σ s Q q =>
  h F G H σ s _ fun x v G1 H1 hx kx s1 g1 => by
    obtain ⟨p, fs, gs, rfl, hm, hA, hP⟩ := hR x hx
    cases kx.val
    obtain ⟨nd, _, gp, fp, dx, ws, hp, rr⟩ := kx
    have kx : PXOk K F G1 H1 (some (.ref p)) (.obj p C fs) := ⟨nd, rfl, gp, fp, dx, ws, hp, rr⟩
    refine ⟨p, dx, ws, rfl, hp, rr.lookup_none hm, ha _ G1 H1 σ s1 _ fun vs G2 H2 s2 g2 r2 => ?_⟩
    rw [List.append_nil]
    have inA : ∀ a ∈ (PX.obj p C fs).adr, ∀ u, H1 a = some u → H2 a = some u ∧ G2 a = none := fun a c u hu => by
      have : withA F H1 (PX.obj p C fs).adr a = some u := by
        unfold withA
        rw [if_pos c]
        exact hu
      exact ⟨s2.f _ _ this, s2.dj _ _ this⟩
    have k2 : PXOk K (remA G2 H2 (PX.obj p C fs).adr) G2 H2 (some (.ref p)) (.obj p C fs) := kx.tr g2 fun a c g f => by
      obtain ⟨_, _, u, hu⟩ := kx.at c
      exact ⟨(inA a c u hu).2, remA_in c, fun w hw => (inA a c w hw).1⟩
    have ea : (PX.obj p C fs).adr = (PX.obj p C gs).adr := congrArg (p :: ·) hA
    refine ⟨remA G2 H2 (PX.obj p C fs).adr, G2, .prv (.obj p C fs) :: ds.map .d, d, .prv (.obj p C gs) :: ds.map .d, prv_data (fun a o e => (remA_some e).2.1) s2.g (fun a o e => (remA_some e).2.2) k2 r2, ⟨p, fs, ds, gs, rfl, rfl, hA, hP⟩, fun v G3 H3 s3 g3 r3 => ?_⟩
    have dn : ∀ a, withA F H1 (PX.obj p C fs).adr a = none → a ∉ (PX.obj p C fs).adr ∧ F a = none := fun a e => by
      unfold withA at e
      by_cases c : a ∈ (PX.obj p C fs).adr
      · rw [if_pos c] at e
        obtain ⟨_, _, u, hu⟩ := kx.at c
        rw [hu] at e
        cases e
      · rw [if_neg c] at e
        exact ⟨c, e⟩
    have up : ∀ a u, F a = some u → remA G2 H2 (PX.obj p C fs).adr a = some u := fun a u e => by
      have na : a ∉ (PX.obj p C fs).adr := fun c => by rw [(kx.at c).2.1] at e; cases e
      have e2 : withA F H1 (PX.obj p C fs).adr a = some u := by
        unfold withA
        rw [if_neg na]
        exact e
      rw [remA_of na (s2.dj a u e2)]
      exact s2.f a u e2
    refine q v G3 H3 ⟨fun a u e => s3.f a u (up a u e), s3.g, fun a u e => s3.dj a u (up a u e), s2.len, fun i t e => ?_, s2.sp⟩ (g1.trans (g2.trans g3)) r3
    obtain ⟨o, ho, kk⟩ := s2.sl i t e
    refine ⟨o, ho, kk.tr g3 fun a c g f => ?_⟩
    obtain ⟨na, fa⟩ := dn a f
    obtain ⟨_, _, u, hu⟩ := kk.at c
    have mm := remA_of (H := H2) na g
    rw [hu] at mm
    exact ⟨s3.dj _ _ mm, fa, fun w hw => by rw [hu] at hw; cases hw; exact s3.f _ _ mm⟩
end
/-! ### self.f = {} where an object is made -/
section
variable {K : PySem.W.Frag} {F G H : Hp} {σ : L2.St} {es es' : List Sl} {ρ : Type} {m : Option ρ} {oc : ρ → Res} {tz : TS} {p C : Addr} {i : Nat} {f : Str} {w : World} {fs : List (Str × PF)}
theorem putF_new {f : Str} {v : V} : ∀ {vs : List (Str × V)}, vs.lookup f = none → putF f v vs = vs ++ [(f, v)]
  | [], _ => rfl
  | (g, x) :: vs, h => by
    rw [List.lookup_cons] at h
    cases z : f == g with
    | true => rw [z] at h; cases h
    | false =>
      rw [z] at h
      have : g ≠ f := fun e => by rw [e, beq_self_eq_true] at z; cases z
      show (if g = f then (g, v) :: vs else (g, x) :: putF f v vs) = _
      rw [if_neg this, putF_new h]
      rfl
theorem PFsOk.snoc : ∀ {vs : List (Str × V)} {fs : List (Str × PF)} {v : V} {y : PF}, PFsOk K F G H vs fs → PFOk K F G H v y → PFsOk K F G H (vs ++ [(f, v)]) (fs ++ [(f, y)])
  | [], [], v, y, _, h => ⟨rfl, h, trivial⟩
  | (a, v) :: vs, (b, x) :: fs, u, y, h, k => ⟨h.1, h.2.1, PFsOk.snoc h.2.2 k⟩
  | [], _ :: _, _, _, h, _ => h.elim
  | _ :: _, [], _, _, h, _ => h.elim
theorem PFsOk.length : ∀ {vs : List (Str × V)} {fs : List (Str × PF)}, PFsOk K F G H vs fs → vs.length = fs.length
  | [], [], _ => rfl
  | _ :: _, _ :: _, h => congrArg (· + 1) (PFsOk.length h.2.2)
  | [], _ :: _, h => h.elim
  | _ :: _, [], h => h.elim
theorem sm_newPD (hi : es[i]? = some (.prv (.obj p C fs))) (hc : Cls K C) (hna : NoAttr K C f) (hfs : fs.length < 900) (hf : fs.lookup f = none) (k : ∀ q, SM K tz (es.set i (.prv (.obj p C (fs ++ [(f, .dic q w [])])))) m oc) : SM K (tSeq (sFld K (tVar i) (tDNewN w) f) tz) es m oc := fun r e F G H σ D s qd => by
  obtain ⟨o0, ho0, nd, e0, g0, f0, dx, vs, hp, rr⟩ := s.sl i _ hi
  have kx : PXOk K F G H o0 (.obj p C fs) := ⟨nd, e0, g0, f0, dx, vs, hp, rr⟩
  subst e0
  intro q hq
  have pq : p ≠ q := fun z => by rw [z, hq] at hp; cases hp
  refine ⟨.ref p, ho0, p, C, dx, vs, rfl, by rw [upd_ne pq]; exact hp, hc, hna, by rw [rr.length]; omega, ?_⟩
  rw [putF_new (rr.lookup_none hf)]
  have nin : q ∉ (PX.obj p C fs).adr := fun c => by
    obtain ⟨_, _, u, hu⟩ := kx.at c
    rw [hq] at hu
    cases hu
  have hA : (PX.obj p C (fs ++ [(f, .dic q w [])])).adr = (PX.obj p C fs).adr ++ [q] := by
    show p :: _ = p :: (_ ++ [q])
    rw [List.flatMap_append]
    rfl
  have keep : ∀ a u, a ≠ p → H a = some u → upd (upd H q (NDO w q [])) p (.ins C dx (vs ++ [(f, .ref q)])) a = some u := fun a u n e => by
    rw [upd_ne n, upd_ne (ne_of_none e hq)]
    exact e
  refine k q r e F G _ σ D ⟨fun a u e => keep a u (fun z => by rw [z, f0] at e; cases e) (s.f a u e), fun a u e => keep a u (fun z => by rw [z, g0] at e; cases e) (s.g a u e), s.dj, by rw [List.length_set]; exact s.len, fun j t e => ?_, ?_⟩ qd
  · by_cases z : i = j
    · subst z
      rw [List.getElem?_set_self (List.getElem?_eq_some_iff.mp hi).1] at e
      cases e
      refine ⟨_, ho0, ?_, rfl, g0, f0, dx, _, upd_same, PFsOk.snoc (rr.tr (Same.refl _) fun a c g f => ⟨g, f, fun u hu => keep a u (fun z => ?_) hu⟩) ⟨rfl, s.gnone hq, s.fnone hq, [], by rw [upd_ne (Ne.symm pq)]; exact upd_same, .nil⟩⟩
      · rw [hA]
        exact List.nodup_append.mpr ⟨nd, by simp, fun a ha b hb z => nin (by rw [List.mem_singleton] at hb; rw [← hb, ← z]; exact ha)⟩
      · exact (List.nodup_cons.mp nd).1 (z ▸ c)
    · rw [List.getElem?_set_ne z] at e
      obtain ⟨o, ho, kk⟩ := s.sl j t e
      refine ⟨o, ho, kk.tr (Same.refl _) fun a c g f => ⟨g, f, fun u hu => keep a u (fun zz => ?_) hu⟩⟩
      exact s.sp i j _ t _ _ a z hi e ho0 ho (by rw [zz]; exact List.mem_cons_self ..) c
  · refine sp_new s.sp i (fun a => a = q) (fun j u y a ej hj h => ?_) fun j u y a n ej hj h m => ?_
    · by_cases z : i = j
      · subst z
        rw [List.getElem?_set_self (List.getElem?_eq_some_iff.mp hi).1] at ej
        cases ej
        have h : a ∈ (PX.obj p C (fs ++ [(f, .dic q w [])])).adr := h
        rw [hA] at h
        rcases List.mem_append.mp h with h | h
        · exact .inr ⟨_, _, hi, ho0, h⟩
        · exact .inl ⟨rfl, List.mem_singleton.mp h⟩
      · rw [List.getElem?_set_ne z] at ej
        exact .inr ⟨u, y, ej, hj, h⟩
    · obtain ⟨o, ho, kk⟩ := s.sl j u ej
      rw [hj] at ho
      cases ho
      obtain ⟨_, _, w, hw⟩ := kk.at h
      rw [m, hq] at hw
      cases hw
theorem sev_ex {t : TS} {o : Addr → Res} (q : Addr) (h : SEv K t es (o q)) : SEv K t es (.ex o) := fun F G H σ D s g => h F G H σ D s (g q)
end
end DL

/-! Dl37: d[k] of dicts with nested keys; sorted of few texts -/
namespace L2
open PySem PySem.Spec PyProof.Rows
def getN (xs : NX) (k : NestedKey) : Option V := (xs.find? fun x => decide (x.1 = k)).map (·.2.2)
theorem nxv_get {k : NestedKey} {v : V} : ∀ {xs : NX} {ys : List (NestedKey × Addr × Value)}, NXV xs ys → getN xs k = some v → ∃ u, (atKey ys k).map (·.2) = some u ∧ RelV v u
  | _, _, .nil, h => by cases h
  | x :: xs, y :: ys, .cons h r, e => by
    unfold getN at e
    unfold atKey
    rw [List.find?_cons] at e ⊢
    rw [h.1] at e
    by_cases c : y.1 = k
    · rw [decide_eq_true c] at e ⊢
      cases e
      exact ⟨_, rfl, h.2.2⟩
    · rw [decide_eq_false c] at e ⊢
      exact nxv_get r e
def rIxN (K : PySem.W.Frag) (w : World) : R2 := fun x y H Q => ∃ (k : NestedKey) (b a : Addr) (xs : NX) (v : V), x = .ref a ∧ y = .ref b ∧ NK K H k (.ref b) ∧ k.depth ≤ 8 ∧ H a = some (NDO w a xs) ∧ AllK K H xs ∧ getN xs k = some v ∧ Q v H
theorem ix_nd {X : Cx} {j : Nat} (hr : Room j X.A) : IxR X (rIxN X.K X.w) := by
  intro value slice pins s σ H x y v u Q I rx ry h hs
  obtain ⟨k, b, a, xs, r, rfl, rfl, hk, kd, ha, hx, hg, q⟩ := h
  cases (show v = Value.ref a from rx)
  cases (show u = Value.ref b from ry)
  obtain ⟨z, hd, ys, rr, dd⟩ := nd_at I ha hx
  obtain ⟨w0, hw, rw0⟩ := nxv_get rr hg
  have ty : s.TypeIs (.ref a) "dict" := by
    obtain ⟨o, es, ep, e1, e2, _⟩ := dd
    exact ⟨o, e1, e2.1⟩
  exact tail_any ty slot_dict_getitem.lookup (getItem_keyed (knd := nestedKind X.prog X.w) (kvs := pairsH ys) (nroom hr) ⟨nk_is I hk rfl, kd⟩ ⟨ys, dd, rfl⟩ (by rw [valueAt_pairsH]; exact hw) ⟨r, H, I.tok _, rw0, q⟩) hs
end L2
namespace DL
open PySem L2
def getD (kvs : List (Dt × Dt)) (k : NestedKey) : Option Dt := (kvs.find? fun p => decide (keyD p.1 = some k)).map (·.2)
theorem repK_get {K : PySem.W.Frag} {G : Hp} {k : NestedKey} {d : Dt} : ∀ {xs : NX} {kvs : List (Dt × Dt)}, RepK K G xs kvs → getD kvs k = some d → ∃ v, getN xs k = some v ∧ Rep K G v d
  | _, _, .nil, h => by cases h
  | _, _, .cons (k := j) a _ _ rv r, h => by
    unfold getD at h
    unfold getN
    rw [List.find?_cons] at h ⊢
    dsimp only at h ⊢
    rw [a] at h
    by_cases c : j = k
    · rw [decide_eq_true (congrArg some c)] at h
      rw [decide_eq_true c]
      cases h
      exact ⟨_, rfl, rv⟩
    · rw [decide_eq_false fun z => c (Option.some.inj z)] at h
      rw [decide_eq_false c]
      exact repK_get r h
def getBC (kvs : List (Dt × Dt)) (ds : List Dt) : Option Bool := (nkC (.tup ds)).bind fun k => (getD kvs k).bind fun d => match d with
  | .bl b => some b
  | _ => none
section
variable {K : PySem.W.Frag} {es es' : List Sl} {ta tb : TE} {kvs : List (Dt × Dt)} {ds : List Dt} {d : Dt} {w : World} {k : NestedKey}
theorem ev_ixNd (ha : Ev K ta es (.dic w kvs)) (hb : Ev K tb es (.tup ds)) (hk : nkC (.tup ds) = some k) (hg : getD kvs k = some d) : Ev K (tOp (rIxN K w) ta tb) es d := fun F G H σ s Q q =>
  ha F G H σ s _ fun x G1 H1 s1 g1 r1 => hb F G1 H1 σ s1 _ fun y G2 H2 s2 g2 r2 => by
    cases r1 with
    | @dic a _ xs _ e1 rk =>
      cases r2 with
      | @tup b ys _ hs rs =>
        obtain ⟨kd, k8⟩ := nkC_of hk
        have rk2 := rk.mono g2
        obtain ⟨v, hv, rv⟩ := repK_get rk2 hg
        have rt : Rep K G2 (.ref b) (.tup ds) := .tup hs rs
        exact ⟨k, b, a, xs, v, rfl, rfl, rep_nk (rt.mono s2.g) kd, k8, s2.g _ _ (g2 _ _ e1), repK_all rk2 s2.g, hv, q v G2 H2 s2 (g1.trans g2) rv⟩
theorem ev_ixNB {b : Bool} (ha : Ev K ta es (.dic w kvs)) (hb : Ev K tb es (.tup ds)) (h : getBC kvs ds = some b) : Ev K (tOp (rIxN K w) ta tb) es (.bl b) := by
  unfold getBC at h
  cases hk : nkC (.tup ds) with
  | none => rw [hk] at h; cases h
  | some k =>
    rw [hk] at h
    cases hg : getD kvs k with
    | none =>
      have h : (getD kvs k).bind _ = some b := h
      rw [hg] at h; cases h
    | some d =>
      have h : (getD kvs k).bind _ = some b := h
      rw [hg] at h
      cases d <;> first | (cases h; done) | skip
      cases h
      exact ev_ixNd ha hb hk hg
/-! sorted of at most two texts -/
open PyProof.Rows PySem.Spec
def sortC : List Str → Option (List Str)
  | [] => some []
  | [a] => some [a]
  | [a, b] => if ltCps b.cps.toList a.cps.toList = true then some [b, a] else if ltCps a.cps.toList b.cps.toList = true then some [a, b] else none
  | _ => none
theorem sortC_of {xs ys zs : List Str} (h : sortC xs = some ys) (p : zs.Perm xs) (s : PyProof.Rows.sortedS zs = true) : zs = ys := by
  match xs, h with
  | [], h =>
    cases h
    exact p.eq_nil
  | [a], h =>
    cases h
    exact List.perm_singleton.mp p
  | [a, b], h =>
    have hz : zs = [a, b] ∨ zs = [b, a] := by
      match zs, p with
      | [], p => cases p.length_eq
      | [_], p => cases p.length_eq
      | _ :: _ :: _ :: _, p => cases p.length_eq
      | [c, d], p =>
        have mc : c = a ∨ c = b := by simpa using p.mem_iff.mp (List.mem_cons_self : c ∈ [c, d])
        rcases mc with rfl | rfl
        · have := List.perm_singleton.mp ((List.perm_cons c).mp p)
          left
          rw [this]
        · have p2 : [c, d].Perm [c, a] := p.trans (List.Perm.swap ..)
          have := List.perm_singleton.mp ((List.perm_cons c).mp p2)
          right
          rw [this]
    have h : (if ltCps b.cps.toList a.cps.toList = true then some [b, a] else if ltCps a.cps.toList b.cps.toList = true then some [a, b] else none) = some ys := h
    rcases hz with rfl | rfl
    · have s : (!ltCps b.cps.toList a.cps.toList && true) = true := s
      by_cases c : ltCps b.cps.toList a.cps.toList = true
      · rw [c] at s; cases s
      · rw [if_neg c] at h
        obtain ⟨_, h⟩ := ite_some h
        exact h
    · have s : (!ltCps a.cps.toList b.cps.toList && true) = true := s
      by_cases c : ltCps b.cps.toList a.cps.toList = true
      · rw [if_pos c] at h
        cases h
        rfl
      · rw [if_neg c] at h
        by_cases c2 : ltCps a.cps.toList b.cps.toList = true
        · rw [c2] at s; cases s
        · rw [if_neg c2] at h; cases h
theorem sortC_len {xs ys : List Str} (h : sortC xs = some ys) : xs.length ≤ 2 := by
  match xs, h with
  | [], _ => exact Nat.zero_le _
  | [_], _ => exact Nat.le_succ _
  | [_, _], _ => exact Nat.le_refl _
theorem strs_ofL {G : Hp} : ∀ {ys : List Str} {xs : List V}, Reps K G xs (ys.map Dt.str) → xs = ys.map V.str
  | [], _, .nil => rfl
  | y :: ys, _, .cons (.str _) r => by rw [strs_ofL r]; rfl
theorem reps_strS {G : Hp} : ∀ (ys : List Str), Reps K G (ys.map V.str) (ys.map Dt.str)
  | [] => .nil
  | y :: ys => .cons (.str y) (reps_strS ys)
theorem el_sortS {xs ys : List Str} (ha : Ev K ta es (.lst (xs.map Dt.str))) (h : sortC xs = some ys) : EvL K (tCB (rSortedS K) (tCons ta tNil)) es (ys.map Dt.str) := fun F G H σ s Q q =>
  ha F G H σ s _ fun x G1 H1 s1 g1 r1 => by
    cases r1 with
    | @lst a vs _ hs rs =>
      have e := strs_ofL rs
      subst e
      exact ⟨a, xs, rfl, s1.g.seq hs, by have := sortC_len h; omega, fun zs p hp hsr hn => by
        rw [sortC_of h hp hsr]
        exact q p _ G1 _ (s1.prot hn) (s1.fnone hn) g1 (reps_strS ys)⟩
end
/-! names of fields -/
theorem nf_nil {f : Str} : ∀ y ∈ ([] : List (Str × PF)), y.1 ≠ f := fun y m => nomatch m
theorem nf_cons {f a : Str} {x : PF} {as : List (Str × PF)} (h : a ≠ f) (r : ∀ y ∈ as, y.1 ≠ f) : ∀ y ∈ (a, x) :: as, y.1 ≠ f := fun y m => by
  rcases List.mem_cons.mp m with rfl | m
  · exact h
  · exact r y m
section
variable {K : PySem.W.Frag} {es : List Sl} {te : TE} {ρ : Type} {m : Option ρ} {oc : ρ → Res} {tz : TS} {i : Nat} {p C : Addr} {f : Str} {w : World}
theorem sm_ownQ {fs : List Addr → List (Str × PF)} {es' : Addr → List Addr → List Sl} (h : EvP K te es (fun x => ∃ p qs, x = .obj p C (fs qs))) (he : ∀ p qs, es.set i (.prv (.obj p C (fs qs))) = es' p qs) (k : ∀ p qs, SM K tz (es' p qs) m oc) : SM K (tSeq (tAsg te (gName i)) tz) es m oc :=
  sm_ownP h fun x ⟨p, qs, e⟩ => by subst e; rw [he]; exact k p qs
theorem sm_newPQ {fs : List (Str × PF)} {es' : Addr → List Sl} (hi : es[i]? = some (.prv (.obj p C fs))) (hc : Cls K C) (hna : NoAttr K C f) (hfs : fs.length < 900) (hf : fs.lookup f = none) (he : ∀ q, es.set i (.prv (.obj p C (fs ++ [(f, .dic q w [])]))) = es' q) (k : ∀ q, SM K tz (es' q) m oc) : SM K (tSeq (sFld K (tVar i) (tDNewN w) f) tz) es m oc :=
  sm_newPD hi hc hna hfs hf fun q => by rw [he]; exact k q
end
/-! own.pop() -/
def popC {α : Type} (xs : List α) : Option (List α) := if xs.length = 0 then none else some xs.dropLast
theorem mt_popS {X : Cx} : MtR X "list.pop" rPop := mt_pop
section
variable {K : PySem.W.Frag} {es es' : List Sl} {ρ : Type} {m : Option ρ} {oc : ρ → Res} {tz : TS}
theorem reps_drop {G : Hp} : ∀ {vs : List V} {ds : List Dt}, Reps K G vs ds → Reps K G vs.dropLast ds.dropLast
  | _, _, .nil => .nil
  | _, _, .cons (vs := vs) (ds := ds) h r => by
    cases r with
    | nil => exact .nil
    | cons h2 r2 => exact .cons h (reps_drop (.cons h2 r2))
theorem sm_pop {α : Type} {em : α → Dt} {xs ys : List α} {i : Nat} {a : Option Addr} (hi : es[i]? = some (.own a (xs.map em))) (hy : popC xs = some ys) (he : es.set i (.own a (ys.map em)) = es') (k : SM K tz es' m oc) :
    SM K (tSeq (tDrop (tBM0 K "list" rPop (tVar i))) tz) es m oc := fun r e F G H σ D s q => by
  unfold popC at hy
  by_cases z : xs.length = 0
  · rw [if_pos z] at hy; cases hy
  rw [if_neg z] at hy
  cases hy
  obtain ⟨o, ho, p, vs, eo, g, f, hp, rr, an⟩ := s.sl i _ hi
  subst eo
  have hl : vs.length = xs.length := by rw [rr.length, List.length_map]
  refine ⟨.ref p, ho, .inl ⟨rfl, vs, .inl (.inl hp)⟩, p, vs, vs[vs.length - 1]'(by omega), rfl, rfl, hp, List.getElem?_eq_getElem (by omega), ?_⟩
  subst he
  exact k r e F G _ σ D (s.write hi rfl rfl ho ⟨p, _, rfl, g, f, upd_same, by rw [List.map_dropLast]; exact reps_drop rr, an⟩ g f) q
end
end DL

/-! Dl38: comprehensions whose tests change the slots -/
namespace DL
open PySem L2
def filS {α β S : Type} (f : α → S → Option (Bool × S)) (it : α → S → β) : List α → S → Option (List β × S)
  | [], s => some ([], s)
  | x :: xs, s => (f x s).bind fun r => (filS f it xs r.2).bind fun q => some (if r.1 = true then it x r.2 :: q.1 else q.1, q.2)
def filSC {α β S : Type} (xs : List α) (s : S) (f : α → S → Option (Bool × S)) (it : α → S → β) : Option (List β × S) := if xs.length ≤ 1000000 then filS f it xs s else none
section
variable {K : PySem.W.Frag} {es es1 es2 es' : List Sl} {α β S : Type} {te : TE} {ta : TA} {d : Dt}
theorem el_filM {wi : TI} {g : TG} {tt : TT} {vs : List Nat} {xs : List α} {em : α → Dt} {em2 : β → Dt} {f : α → S → Option (Bool × S)} {it : α → S → β} {env : S → List Sl} {en2 : α → S → List Sl} {en3 : α → S → List Sl} {s0 : S} {r : List β × S}
    (hi : EvIM K wi es (env s0) (xs.map em)) (hg : ∀ x s, EvG K g vs (wipeS (env s) vs) (em x) (en2 x s)) (hb : ∀ x s q, f x s = some q → EvMT K tt (en2 x s) (en3 x q.2) q.1) (he : ∀ x s, Ev K te (en3 x s) (em2 (it x s))) (hw : ∀ x s s', Swp vs 0 (env s) (en3 x s') (env s')) (h : filSC xs s0 f it = some r) :
    EvLM K (tLc wi g tt te vs) es (env r.2) (r.1.map em2) := fun F G H σ st Q q => by
  obtain ⟨hz, h⟩ := ite_some' h
  refine hi F G H σ st _ fun J G1 H1 s1 g1 y => fun Dl hD => ?_
  have hF : F Dl = none := s1.fnone hD
  have sz : (1000000 : Nat) < sizeLine := by decide
  refine ⟨fun i m H' => ∃ (G' : Hp) (acc : List V) (zs : List β) (s : S) (rest : List β × S), Stt K (upd F Dl (.lst acc)) G' H' σ (env s) ∧ Same G1 G' ∧ Reps K G' acc (zs.map em2) ∧ zs.length ≤ i ∧ filS f it (xs.drop i) s = some rest ∧ zs ++ rest.1 = r.1 ∧ rest.2 = r.2 ∧ m = xs.length - i ∧ i ≤ xs.length,
    ⟨_, G1, [], [], s0, r, s1.prot hD, Same.refl _, .nil, Nat.zero_le _, h, rfl, rfl, rfl, Nat.zero_le _⟩, ?_⟩
  rintro i m H' ⟨G', acc, zs, s, rest, st', g', racc, hzl, hc, hap, hap2, rfl, hle⟩
  by_cases hlt : i < xs.length
  · refine .inr ?_
    have hdr : xs.drop i = xs[i] :: xs.drop (i + 1) := List.drop_eq_getElem_cons hlt
    rw [hdr] at hc
    cases hf : f xs[i] s with
    | none =>
      have : filS f it (xs[i] :: xs.drop (i + 1)) s = none := by
        show (f xs[i] s).bind _ = none
        rw [hf]
        rfl
      rw [this] at hc
      cases hc
    | some o =>
      cases hr : filS f it (xs.drop (i + 1)) o.2 with
      | none =>
        have : filS f it (xs[i] :: xs.drop (i + 1)) s = none := by
          show (f xs[i] s).bind _ = none
          rw [hf]
          show (filS f it (xs.drop (i + 1)) o.2).bind _ = none
          rw [hr]
          rfl
        rw [this] at hc
        cases hc
      | some rest' =>
        have hc' : rest = (if o.1 = true then it xs[i] o.2 :: rest'.1 else rest'.1, rest'.2) := by
          have : filS f it (xs[i] :: xs.drop (i + 1)) s = some (if o.1 = true then it xs[i] o.2 :: rest'.1 else rest'.1, rest'.2) := by
            show (f xs[i] s).bind _ = _
            rw [hf]
            show (filS f it (xs.drop (i + 1)) o.2).bind _ = _
            rw [hr]
            rfl
          rw [this] at hc
          exact (Option.some.inj hc).symm
        obtain ⟨go, yld⟩ := (y i _ G' H' σ (env s) g' st').1 (em xs[i]) (by rw [List.getElem?_map, List.getElem?_eq_getElem hlt]; rfl)
        refine ⟨go, fun H2 => ∃ (G2 : Hp) (acc2 : List V) (zs2 : List β) (s2 : S) (rest2 : List β × S), Stt K (upd F Dl (.lst acc2)) G2 H2 σ (env s2) ∧ Same G1 G2 ∧ Reps K G2 acc2 (zs2.map em2) ∧ zs2.length ≤ i + 1 ∧ filS f it (xs.drop (i + 1)) s2 = some rest2 ∧ zs2 ++ rest2.1 = r.1 ∧ rest2.2 = r.2,
          fun H2 ⟨G2, acc2, zs2, s2, rest2, a1, a2, a3, a4, a5, a6, a7⟩ => ⟨xs.length - (i + 1), by omega, G2, acc2, zs2, s2, rest2, a1, a2, a3, a4, a5, a6, a7, rfl, by omega⟩, fun x H2 hy => ?_⟩
        obtain ⟨G2, st2, g2, rx⟩ := yld x H2 hy
        have hte := hb xs[i] s o hf
        refine hg xs[i] s (upd F Dl (.lst acc)) G2 H2 (L2.wipe σ vs) x (st2.wipe vs) rx _ fun σ3 G3 H3 st3 g3 l3 k3 => ?_
        refine ⟨by rw [wipe_ext (σ := L2.wipe σ vs) l3 k3]; exact wipe_ext (wipe_length _ _) fun k hk => wipe_get hk, ?_⟩
        refine hte _ G3 H3 σ3 st3 _ fun G4 H4 st4 g4 => ?_
        have gg : Same G' G4 := g2.trans (g3.trans g4)
        obtain ⟨bo, so⟩ := o
        cases bo with
        | false =>
          have sw := st2.swapM (hw xs[i] s so) st4 (fun k hk => by rw [k3 k hk]; exact wipe_get hk) (g3.trans g4)
          refine ⟨G4, acc, zs, so, rest', sw, g'.trans gg, racc.mono gg, Nat.le_succ_of_le hzl, hr, ?_, ?_⟩
          · rw [hc'] at hap
            exact hap
          · rw [hc'] at hap2
            exact hap2
        | true =>
          show te σ3 H4 _
          refine he xs[i] so _ G4 H4 σ3 st4 _ fun v G5 H5 st5 g5 r5 => ?_
          have hzl2 : acc.length ≤ i := by
            have := racc.length
            rw [List.length_map] at this
            omega
          have sw := st2.swapM (hw xs[i] s so) st5 (fun k hk => by rw [k3 k hk]; exact wipe_get hk) (g3.trans (g4.trans g5))
          refine ⟨acc, st5.f Dl _ upd_same, by omega, G5, acc ++ [v], zs ++ [it xs[i] so], so, rest', sw.reprot, g'.trans (gg.trans g5), ?_, ?_, hr, ?_, ?_⟩
          · rw [List.map_append]
            exact (racc.mono (gg.trans g5)).append (.cons r5 .nil)
          · rw [List.length_append, List.length_singleton]
            omega
          · rw [List.append_assoc]
            rw [hc'] at hap
            exact hap
          · rw [hc'] at hap2
            exact hap2
  · have e3 : i = xs.length := by omega
    subst e3
    refine .inl ⟨(y xs.length _ G' H' σ (env s) g' st').2 (by simp), ?_⟩
    rw [List.drop_length] at hc
    cases hc
    have e4 : zs = r.1 := by
      have : zs ++ [] = r.1 := hap
      rwa [List.append_nil] at this
    have e5 : s = r.2 := hap2
    subst e4 e5
    exact q Dl acc G' H' st' hF (g1.trans g') racc
/-- a test that is worked out first -/
theorem cb_bnd {γ δ : Type} {m1 : Option γ} {k : γ → Option δ} {P : δ → Prop} (h : ∀ x, m1 = some x → ∀ o, k x = some o → P o) : ∀ o, m1.bind k = some o → P o := fun o e => by
  cases z : m1 with
  | none => rw [z] at e; cases e
  | some x => rw [z] at e; exact h x z o e
end
end DL

/-! Dl39: calls that are handed what is a slot's own, at any place; results that are one's own; list(range(..)) -/
namespace DL
open PySem L2
/-- an argument: a variable whose slot is handed on, or data -/
inductive Ar where
  | v (i : Nat) | d (x : Dt)
def ArOk (K : PySem.W.Frag) (G : Hp) (σ : L2.St) : List V → List Ar → Prop
  | [], [] => True
  | v :: vs, .v i :: as => σ[i]? = some (some v) ∧ ArOk K G σ vs as
  | v :: vs, .d x :: as => Rep K G v x ∧ ArOk K G σ vs as
  | _, _ => False
/-- a slot whose address has a name -/
def nmS (p : Addr) : Sl → Sl
  | .own _ xs => .own (some p) xs
  | .obo _ C fs => .obo (some p) C fs
  | s => s
def unS : Sl → Sl → Sl
  | .own a _, .own _ ys => .own a ys
  | .obo a _ _, .obo _ C fs => .obo a C fs
  | _, s => s
def arS (ps : Nat → Addr) (es : List Sl) : Ar → Sl
  | .v i => nmS (ps i) ((es[i]?).getD .un)
  | .d x => .d x
def ixs : List Ar → List Nat
  | [] => []
  | .v i :: r => i :: ixs r
  | .d _ :: r => ixs r
def nodupB : List Nat → Bool
  | [] => true
  | x :: xs => !(xs.any fun y => Nat.beq x y) && nodupB xs
def putS : List Ar → List Sl → List Sl → List Sl
  | .v i :: as, s :: ss, es => putS as ss (es.set i (unS ((es[i]?).getD .un) s))
  | .d _ :: as, _ :: ss, es => putS as ss es
  | _, _, es => es
section
variable {K : PySem.W.Frag} {F G H F' G' H' G1 H1 : Hp} {σ : L2.St} {es es1 es2 es' : List Sl} {as : List Ar} {vs : List V} {ss' : List Sl} {r : Sl}
theorem ArOk.len : ∀ {vs : List V} {as : List Ar}, ArOk K G σ vs as → vs.length = as.length
  | [], [], _ => rfl
  | _ :: _, .v _ :: _, h => congrArg (· + 1) (ArOk.len h.2)
  | _ :: _, .d _ :: _, h => congrArg (· + 1) (ArOk.len h.2)
  | [], .v _ :: _, h => h.elim
  | [], .d _ :: _, h => h.elim
  | _ :: _, [], h => h.elim
theorem ArOk.mono (e : Same G G') : ∀ {vs : List V} {as : List Ar}, ArOk K G σ vs as → ArOk K G' σ vs as
  | [], [], _ => trivial
  | _ :: _, .v _ :: _, h => ⟨h.1, ArOk.mono e h.2⟩
  | _ :: _, .d _ :: _, h => ⟨h.1.mono e, ArOk.mono e h.2⟩
  | [], .v _ :: _, h => h.elim
  | [], .d _ :: _, h => h.elim
  | _ :: _, [], h => h.elim
theorem ArOk.atV : ∀ {vs : List V} {as : List Ar} {k i : Nat}, ArOk K G σ vs as → as[k]? = some (.v i) → ∃ v, vs[k]? = some v ∧ σ[i]? = some (some v)
  | [], [], _, _, _, e => by simp at e
  | v :: _, .v _ :: _, 0, i, h, e => by cases e; exact ⟨v, rfl, h.1⟩
  | _ :: _, .d _ :: _, 0, i, h, e => by cases e
  | _ :: _, .v _ :: _, k + 1, i, h, e => by
    obtain ⟨v, h1, h2⟩ := ArOk.atV (k := k) h.2 (by simpa using e)
    exact ⟨v, by simpa using h1, h2⟩
  | _ :: _, .d _ :: _, k + 1, i, h, e => by
    obtain ⟨v, h1, h2⟩ := ArOk.atV (k := k) h.2 (by simpa using e)
    exact ⟨v, by simpa using h1, h2⟩
  | [], .v _ :: _, _, _, h, _ => h.elim
  | [], .d _ :: _, _, _, h, _ => h.elim
  | _ :: _, [], _, _, h, _ => h.elim
theorem ArOk.atD : ∀ {vs : List V} {as : List Ar} {k : Nat} {x : Dt}, ArOk K G σ vs as → as[k]? = some (.d x) → ∃ v, vs[k]? = some v ∧ Rep K G v x
  | [], [], _, _, _, e => by simp at e
  | v :: _, .d _ :: _, 0, i, h, e => by cases e; exact ⟨v, rfl, h.1⟩
  | _ :: _, .v _ :: _, 0, i, h, e => by cases e
  | _ :: _, .v _ :: _, k + 1, i, h, e => by
    obtain ⟨v, h1, h2⟩ := ArOk.atD (k := k) h.2 (by simpa using e)
    exact ⟨v, by simpa using h1, h2⟩
  | _ :: _, .d _ :: _, k + 1, i, h, e => by
    obtain ⟨v, h1, h2⟩ := ArOk.atD (k := k) h.2 (by simpa using e)
    exact ⟨v, by simpa using h1, h2⟩
  | [], .v _ :: _, _, _, h, _ => h.elim
  | [], .d _ :: _, _, _, h, _ => h.elim
  | _ :: _, [], _, _, h, _ => h.elim
theorem mem_ixs : ∀ {as : List Ar} {i : Nat}, i ∈ ixs as → ∃ k : Nat, as[k]? = some (Ar.v i)
  | .v j :: as, i, m => by
    rcases List.mem_cons.mp m with rfl | m
    · exact ⟨0, rfl⟩
    · obtain ⟨k, h⟩ := mem_ixs m
      exact ⟨k + 1, by simpa using h⟩
  | .d _ :: as, i, m => by
    obtain ⟨k, h⟩ := mem_ixs (as := as) m
    exact ⟨k + 1, by simpa using h⟩
theorem ixs_mem : ∀ {as : List Ar} {k i : Nat}, as[k]? = some (.v i) → i ∈ ixs as
  | [], _, _, e => by simp at e
  | .v j :: as, 0, i, e => by cases e; exact List.mem_cons_self ..
  | .d _ :: as, 0, i, e => by cases e
  | .v j :: as, k + 1, i, e => List.mem_cons_of_mem _ (ixs_mem (k := k) (by simpa using e))
  | .d _ :: as, k + 1, i, e => ixs_mem (as := as) (k := k) (by simpa using e)
theorem nodupB_notin {x : Nat} {xs : List Nat} (h : nodupB (x :: xs) = true) : x ∉ xs ∧ nodupB xs = true := by
  obtain ⟨h1, h2⟩ := Bool.and_eq_true_iff.mp (show (!(xs.any fun y => Nat.beq x y) && nodupB xs) = true from h)
  refine ⟨fun m => ?_, h2⟩
  have : (xs.any fun y => Nat.beq x y) = true := List.any_eq_true.mpr ⟨x, m, Nat.beq_refl x⟩
  rw [this] at h1
  cases h1
theorem ar_inj : ∀ {as : List Ar} {k l i : Nat}, nodupB (ixs as) = true → as[k]? = some (.v i) → as[l]? = some (.v i) → k = l
  | [], _, _, _, _, e, _ => by simp at e
  | .v j :: as, 0, 0, i, nd, e, f => rfl
  | .v j :: as, 0, l + 1, i, nd, e, f => by
    cases e
    exact ((nodupB_notin nd).1 (ixs_mem (k := l) (by simpa using f))).elim
  | .v j :: as, k + 1, 0, i, nd, e, f => by
    cases f
    exact ((nodupB_notin nd).1 (ixs_mem (k := k) (by simpa using e))).elim
  | .v j :: as, k + 1, l + 1, i, nd, e, f => congrArg (· + 1) (ar_inj (nodupB_notin nd).2 (by simpa using e) (by simpa using f))
  | .d _ :: as, 0, _, i, nd, e, f => by cases e
  | .d _ :: as, _ + 1, 0, i, nd, e, f => by cases f
  | .d _ :: as, k + 1, l + 1, i, nd, e, f => congrArg (· + 1) (ar_inj (as := as) nd (by simpa using e) (by simpa using f))
theorem putS_len : ∀ {as : List Ar} {ss es : List Sl}, (putS as ss es).length = es.length
  | [], _, _ => by simp [putS]
  | .v i :: as, [], es => rfl
  | .d i :: as, [], es => rfl
  | .v i :: as, s :: ss, es => by
    show (putS as ss _).length = _
    rw [putS_len, List.length_set]
  | .d _ :: as, _ :: ss, es => putS_len (as := as)
theorem putS_ne : ∀ {as : List Ar} {ss es : List Sl} {j : Nat}, j ∉ ixs as → (putS as ss es)[j]? = es[j]?
  | [], _, _, _, _ => by simp [putS]
  | .v i :: as, [], es, _, _ => rfl
  | .d i :: as, [], es, _, _ => rfl
  | .v i :: as, s :: ss, es, j, h => by
    show (putS as ss _)[j]? = _
    rw [putS_ne fun m => h (List.mem_cons_of_mem _ m), List.getElem?_set_ne fun e => h (by rw [← e]; exact List.mem_cons_self ..)]
  | .d _ :: as, _ :: ss, es, j, h => putS_ne (as := as) h
theorem putS_at : ∀ {as : List Ar} {ss es : List Sl} {k i : Nat} {s : Sl}, nodupB (ixs as) = true → as[k]? = some (.v i) → ss[k]? = some s → i < es.length → (putS as ss es)[i]? = some (unS ((es[i]?).getD .un) s)
  | [], _, _, _, _, _, _, e, _, _ => by simp at e
  | _ :: _, [], _, _, _, _, _, _, e, _ => by simp at e
  | .v j :: as, s0 :: ss, es, 0, i, s, nd, e, f, hl => by
    cases e
    cases f
    show (putS as ss _)[j]? = _
    rw [putS_ne (nodupB_notin nd).1, List.getElem?_set_self hl]
  | .d _ :: as, s0 :: ss, es, 0, i, s, nd, e, f, hl => by cases e
  | .v j :: as, s0 :: ss, es, k + 1, i, s, nd, e, f, hl => by
    show (putS as ss _)[i]? = _
    have e' : as[k]? = some (.v i) := by simpa using e
    have ne : j ≠ i := fun z => (nodupB_notin nd).1 (by rw [z]; exact ixs_mem e')
    rw [putS_at (k := k) (nodupB_notin nd).2 e' (by simpa using f) (by rw [List.length_set]; exact hl), List.getElem?_set_ne ne]
  | .d _ :: as, s0 :: ss, es, k + 1, i, s, nd, e, f, hl => putS_at (as := as) (k := k) nd (by simpa using e) (by simpa using f) hl
/-- the addresses that are handed on -/
def ownW (σ : L2.St) (es : List Sl) (as : List Ar) (a : Addr) : Prop := ∃ (i : Nat) (s : Sl) (o : Option V), i ∈ ixs as ∧ es[i]? = some s ∧ σ[i]? = some o ∧ s.has o a
open Classical in
noncomputable def remW (G H : Hp) (W : Addr → Prop) : Hp := fun a => if W a then none else DL.rem G H a
theorem remW_some {W : Addr → Prop} {x : Addr} {o : HO} (h : remW G H W x = some o) : ¬ W x ∧ H x = some o ∧ G x = none := by
  unfold remW at h
  by_cases c : W x
  · rw [if_pos c] at h; cases h
  · rw [if_neg c] at h
    exact ⟨c, rem_some h⟩
theorem remW_of {W : Addr → Prop} {x : Addr} (h : ¬ W x) (g : G x = none) : remW G H W x = H x := by
  unfold remW
  rw [if_neg h]
  exact rem_of g
theorem remW_in {W : Addr → Prop} {x : Addr} (h : W x) : remW G H W x = none := by
  unfold remW
  exact if_pos h
theorem nmS_has {p : Addr} {o : Option V} {s : Sl} {a : Addr} : (nmS p s).has o a ↔ s.has o a := by cases s <;> exact Iff.rfl
theorem unS_has {t : Sl} {o : Option V} {s : Sl} {a : Addr} : (unS t s).has o a ↔ s.has o a := by cases t <;> cases s <;> exact Iff.rfl
theorem nmS_ok {o : Option V} {s : Sl} {p : Addr} (h : SlOk K F G H o s) (hp : s.isOwn = true → o = some (.ref p)) : SlOk K F G H o (nmS p s) := by
  cases s with
  | own b xs =>
    obtain ⟨p', vs, e, g, f, hh, rr, an⟩ := h
    refine ⟨p', vs, e, g, f, hh, rr, fun q z => ?_⟩
    cases z
    have := hp rfl
    rw [e] at this
    cases this
    rfl
  | obo b C fs =>
    obtain ⟨p', dx, vs, e, g, f, hh, rr, an⟩ := h
    refine ⟨p', dx, vs, e, g, f, hh, rr, fun q z => ?_⟩
    cases z
    have := hp rfl
    rw [e] at this
    cases this
    rfl
  | un => exact h
  | d x => exact h
  | prv x => exact h
theorem unS_ok {o : Option V} {s t : Sl} {F0 G0 H0 : Hp} (h : SlOk K F G H o s) (h0 : SlOk K F0 G0 H0 o t) : SlOk K F G H o (unS t s) := by
  cases t with
  | own b xs =>
    cases s with
    | own c ys =>
      obtain ⟨p, vs, e, g, f, hh, rr, an⟩ := h
      obtain ⟨p0, vs0, e0, _, _, _, _, an0⟩ := h0
      rw [e] at e0
      cases e0
      exact ⟨p, vs, e, g, f, hh, rr, an0⟩
    | un => exact h
    | d x => exact h
    | obo _ _ _ => exact h
    | prv x => exact h
  | obo b C fs =>
    cases s with
    | obo c C' gs =>
      obtain ⟨p, dx, vs, e, g, f, hh, rr, an⟩ := h
      obtain ⟨p0, dx0, vs0, e0, _, _, _, _, an0⟩ := h0
      rw [e] at e0
      cases e0
      exact ⟨p, dx, vs, e, g, f, hh, rr, an0⟩
    | un => exact h
    | d x => exact h
    | own _ _ => exact h
    | prv x => exact h
  | un => cases s <;> exact h
  | d x => cases s <;> exact h
  | prv x => cases s <;> exact h
/-- names of the addresses that stand in the slots -/
theorem Stt.names (s : Stt K F G H σ es) : ∃ ps : Nat → Addr, ∀ (i : Nat) (t : Sl) (o : Option V), es[i]? = some t → σ[i]? = some o → t.isOwn = true → o = some (V.ref (ps i)) := by
  refine ⟨fun i => match σ[i]? with | some (some (.ref p)) => p | _ => 0, fun i t o et ho ht => ?_⟩
  obtain ⟨o', ho', k⟩ := s.sl i t et
  rw [ho] at ho'
  cases ho'
  obtain ⟨a, ea, _⟩ := k.hasOwn ht
  subst ea
  simp only [ho]
theorem Stt.lend (s : Stt K F G H σ es) (ha : ArOk K G σ vs as) (nd : nodupB (ixs as) = true) {ps : Nat → Addr} (hps : ∀ (i : Nat) (t : Sl) (o : Option V), es[i]? = some t → σ[i]? = some o → t.isOwn = true → o = some (V.ref (ps i))) : Stt K (remW G H (ownW σ es as)) G H (vs.map some) (as.map (arS ps es)) where
  f := fun a o e => (remW_some e).2.1
  g := s.g
  dj := fun a o e => (remW_some e).2.2
  len := by rw [List.length_map, List.length_map]; exact ha.len
  sl := fun k t e => by
    rw [List.getElem?_map] at e
    cases q : as[k]? with
    | none => rw [q] at e; cases e
    | some x =>
      rw [q] at e
      cases e
      cases x with
      | d x =>
        obtain ⟨v, hv, rv⟩ := ha.atD q
        exact ⟨some v, by rw [List.getElem?_map, hv]; rfl, v, rfl, rv⟩
      | v i =>
        obtain ⟨v, hv, hs⟩ := ha.atV q
        refine ⟨some v, by rw [List.getElem?_map, hv]; rfl, ?_⟩
        have hi : i < es.length := by rw [← s.len]; exact (List.getElem?_eq_some_iff.mp hs).1
        have he : es[i]? = some es[i] := List.getElem?_eq_getElem hi
        show SlOk K _ G H (some v) (nmS (ps i) ((es[i]?).getD .un))
        rw [he]
        obtain ⟨o, ho, k0⟩ := s.sl i _ he
        rw [hs] at ho
        cases ho
        refine nmS_ok (k0.tr (Same.refl _) fun a m g f => ⟨g, remW_in ⟨i, _, _, ixs_mem q, he, hs, m⟩, fun w hw => hw⟩) fun z => hps i _ _ he hs z
  sp := fun k l t u x y a n ek el hk hl h1 h2 => by
    have one : ∀ {k : Nat} {t : Sl} {x : Option V}, (as.map (arS ps es))[k]? = some t → (vs.map some)[k]? = some x → t.has x a → ∃ i s', as[k]? = some (.v i) ∧ es[i]? = some s' ∧ σ[i]? = some x ∧ s'.has x a := fun {k t x} ek hk h1 => by
      rw [List.getElem?_map] at ek
      cases q : as[k]? with
      | none => rw [q] at ek; cases ek
      | some z =>
        rw [q] at ek
        cases ek
        cases z with
        | d z => exact h1.elim
        | v i =>
          obtain ⟨v, hv, hs⟩ := ha.atV q
          rw [List.getElem?_map, hv] at hk
          cases hk
          have hi : i < es.length := by rw [← s.len]; exact (List.getElem?_eq_some_iff.mp hs).1
          have he : es[i]? = some es[i] := List.getElem?_eq_getElem hi
          have h1 : (nmS (ps i) ((es[i]?).getD .un)).has (some v) a := h1
          rw [he] at h1
          exact ⟨i, _, rfl, he, hs, nmS_has.mp h1⟩
    obtain ⟨i, s1, q1, e1, v1, m1⟩ := one ek hk h1
    obtain ⟨j, s2, q2, e2, v2, m2⟩ := one el hl h2
    exact s.sp i j s1 s2 _ _ a (fun z => n (ar_inj nd q1 (by rw [z]; exact q2))) e1 e2 v1 v2 m1 m2
/-- places behind a call: 0 the result -/
def Lk (as : List Ar) (m j : Nat) : Prop := (m = 0 ∧ j = 0) ∨ ∃ k i, m = k + 1 ∧ j = i + 1 ∧ as[k]? = some (.v i)
theorem Lk.inj {m j j' : Nat} (h : Lk as m j) (h' : Lk as m j') : j = j' := by
  rcases h with ⟨rfl, rfl⟩ | ⟨k, i, rfl, rfl, e⟩
  · rcases h' with ⟨_, rfl⟩ | ⟨k, i, z, _, _⟩
    · rfl
    · omega
  · rcases h' with ⟨z, _⟩ | ⟨k', i', z, rfl, e'⟩
    · omega
    · obtain rfl : k = k' := by omega
      rw [e] at e'
      cases e'
      rfl
theorem back_cls (s : Stt K F G H σ es) (ha : ArOk K G σ vs as) (nd : nodupB (ixs as) = true) (hl : ss'.length = as.length) {j : Nat} {t : Sl} (e : (r :: putS as ss' es)[j]? = some t) :
    (∃ m t0, Lk as m j ∧ (r :: ss')[m]? = some t0 ∧ (t = t0 ∨ ∃ i, j = i + 1 ∧ t = unS ((es[i]?).getD .un) t0)) ∨ ∃ j', j = j' + 1 ∧ j' ∉ ixs as ∧ es[j']? = some t := by
  cases j with
  | zero => exact .inl ⟨0, r, .inl ⟨rfl, rfl⟩, rfl, .inl (by cases e; rfl)⟩
  | succ j =>
    have e : (putS as ss' es)[j]? = some t := by simpa using e
    by_cases m : j ∈ ixs as
    · obtain ⟨k, hk⟩ := mem_ixs m
      have kl : k < ss'.length := by rw [hl]; exact (List.getElem?_eq_some_iff.mp hk).1
      have hj : j < es.length := by
        have := (List.getElem?_eq_some_iff.mp e).1
        rwa [putS_len] at this
      rw [putS_at nd hk (List.getElem?_eq_getElem kl) hj] at e
      cases e
      exact .inl ⟨k + 1, ss'[k], .inr ⟨k, j, rfl, rfl, hk⟩, by simp, .inr ⟨j, rfl, rfl⟩⟩
    · rw [putS_ne m] at e
      exact .inr ⟨j, rfl, m, e⟩
theorem lk_val {v : V} (ha : ArOk K G σ vs as) {m j : Nat} (h : Lk as m j) : ∃ x, (some v :: vs.map some)[m]? = some x ∧ (some v :: σ)[j]? = some x := by
  rcases h with ⟨rfl, rfl⟩ | ⟨k, i, rfl, rfl, e⟩
  · exact ⟨_, rfl, rfl⟩
  · obtain ⟨w, hw, hs⟩ := ha.atV e
    exact ⟨some w, by simp [hw], by simpa using hs⟩
theorem Stt.back {v : V} (s : Stt K F G H σ es) (ha : ArOk K G σ vs as) (nd : nodupB (ixs as) = true) (s2 : Stt K (remW G H (ownW σ es as)) G1 H1 (some v :: vs.map some) (r :: ss')) (g : Same G G1) : Stt K F G1 H1 (some v :: σ) (r :: putS as ss' es) := by
  have hl : ss'.length = as.length := by
    have := s2.len
    rw [List.length_cons, List.length_cons, List.length_map, ha.len] at this
    omega
  have notW : ∀ a u, F a = some u → ¬ ownW σ es as a := fun a u e ⟨i, t, o, _, et, ho, m⟩ => by
    obtain ⟨o', ho', k⟩ := s.sl i t et
    rw [ho] at ho'
    cases ho'
    rw [(k.at m).2.1] at e
    cases e
  have up : ∀ a u, F a = some u → remW G H (ownW σ es as) a = some u := fun a u e => by
    rw [remW_of (notW a u e) (s.dj a u e)]
    exact s.f a u e
  have fno : ∀ a, remW G H (ownW σ es as) a = none → F a = none := fun a e => by
    cases q : F a with
    | none => rfl
    | some u => rw [up a u q] at e; cases e
  -- a slot that was not handed on keeps what it has
  have oth : ∀ j' t o a, j' ∉ ixs as → es[j']? = some t → σ[j']? = some o → t.has o a → ∃ u, remW G H (ownW σ es as) a = some u ∧ H a = some u ∧ G a = none ∧ F a = none := fun j' t o a nj et ho m => by
    obtain ⟨o', ho', k⟩ := s.sl j' t et
    rw [ho] at ho'
    cases ho'
    obtain ⟨ga, fa, u, hu⟩ := k.at m
    refine ⟨u, ?_, hu, ga, fa⟩
    rw [remW_of (fun ⟨i, t2, o2, mi, et2, ho2, m2⟩ => s.sp i j' t2 t _ _ a (fun z => nj (z ▸ mi)) et2 et ho2 ho m2 m) ga]
    exact hu
  refine ⟨fun a u e => s2.f a u (up a u e), s2.g, fun a u e => s2.dj a u (up a u e), by rw [List.length_cons, List.length_cons, putS_len, s.len], fun j t e => ?_, fun i j t u x y a n ei ej hi hj h1 h2 => ?_⟩
  · rcases back_cls s ha nd hl e with ⟨m, t0, lk, et, ht⟩ | ⟨j', rfl, nj, et⟩
    · obtain ⟨o, ho, k⟩ := s2.sl m t0 et
      obtain ⟨x, hx1, hx2⟩ := lk_val (v := v) ha lk
      rw [hx1] at ho
      have ho := Option.some.inj ho
      subst ho
      have k2 : SlOk K F G1 H1 x t0 := k.tr (Same.refl _) fun a m g f => ⟨g, fno a f, fun w hw => hw⟩
      refine ⟨x, hx2, ?_⟩
      rcases ht with rfl | ⟨i, rfl, rfl⟩
      · exact k2
      · have hx2 : σ[i]? = some x := by simpa using hx2
        have hi : i < es.length := by rw [← s.len]; exact (List.getElem?_eq_some_iff.mp hx2).1
        have he : es[i]? = some es[i] := List.getElem?_eq_getElem hi
        obtain ⟨o, ho, k0⟩ := s.sl i _ he
        rw [hx2] at ho
        cases ho
        rw [he]
        exact unS_ok k2 k0
    · obtain ⟨o, ho, k⟩ := s.sl j' t et
      refine ⟨o, by simpa using ho, k.tr g fun a m ga fa => ?_⟩
      obtain ⟨u, hu, hu2, _, _⟩ := oth j' t o a nj et ho m
      exact ⟨s2.dj a u hu, fa, fun w hw => by rw [hu2] at hw; cases hw; exact s2.f a _ hu⟩
  · have has2 : ∀ {j m : Nat} {t t0 : Sl} {x : Option V}, (t = t0 ∨ ∃ i, j = i + 1 ∧ t = unS ((es[i]?).getD .un) t0) → t.has x a → t0.has x a := fun {j m t t0 x} ht h => by
      rcases ht with rfl | ⟨i, _, rfl⟩
      · exact h
      · exact unS_has.mp h
    have cross : ∀ {i j' m : Nat} {t t0 u : Sl} {x y : Option V}, Lk as m i → (r :: ss')[m]? = some t0 → t0.has x a → (some v :: σ)[i]? = some x → j' ∉ ixs as → es[j']? = some u → σ[j']? = some y → u.has y a → False := fun {i j' m t t0 u x y} lk et h1 hx nj eu hy h2 => by
      obtain ⟨w, hw, _, _, _⟩ := oth j' u y a nj eu hy h2
      obtain ⟨o, ho, k⟩ := s2.sl m t0 et
      obtain ⟨x', hx1, hx2⟩ := lk_val (v := v) ha lk
      rw [hx1] at ho
      cases ho
      rw [hx] at hx2
      cases hx2
      rw [(k.at h1).2.1] at hw
      cases hw
    rcases back_cls s ha nd hl ei with ⟨m1, t1, lk1, et1, ht1⟩ | ⟨i', rfl, ni, et1⟩
    · have h1' := has2 (m := m1) ht1 h1
      rcases back_cls s ha nd hl ej with ⟨m2, t2, lk2, et2, ht2⟩ | ⟨j', rfl, nj, et2⟩
      · have h2' := has2 (m := m2) ht2 h2
        obtain ⟨x', hx1, hx2⟩ := lk_val (v := v) ha lk1
        obtain ⟨y', hy1, hy2⟩ := lk_val (v := v) ha lk2
        rw [hi] at hx2
        cases hx2
        rw [hj] at hy2
        cases hy2
        exact s2.sp m1 m2 t1 t2 _ _ a (fun z => n (lk1.inj (z ▸ lk2))) et1 et2 hx1 hy1 h1' h2'
      · exact cross (t := t) lk1 et1 h1' hi nj et2 (by simpa using hj) h2
    · have hi' : σ[i']? = some x := by simpa using hi
      rcases back_cls s ha nd hl ej with ⟨m2, t2, lk2, et2, ht2⟩ | ⟨j', rfl, nj, et2⟩
      · exact cross (t := u) lk2 et2 (has2 (m := m2) ht2 h2) hj ni et1 hi' h1
      · exact s.sp i' j' t u x y a (fun z => n (by rw [z])) et1 et2 hi' (by simpa using hj) h1 h2
end
/-! ### specs and calls -/
/-- R: the slots of the arguments, the slot of what is handed back (it hangs on new addresses), the slots behind -/
def FSpecG (K : PySem.W.Frag) (R : List Sl → (List Addr → Sl) → List Sl → Prop) : Sp := fun vs H Q _ => ∃ F G ss rs ss', Stt K F G H (vs.map some) ss ∧ R ss rs ss' ∧
  ∀ (qs : List Addr) v G' H', Stt K F G' H' (some v :: vs.map some) (rs qs :: ss') → Same G G' → Q v H'
/-- an expression that gives what goes into a slot -/
def EvS (K : PySem.W.Frag) (te : TE) (es es' : List Sl) (rs : List Addr → Sl) : Prop := ∀ F G H σ, Stt K F G H σ es → ∀ Q : VK, (∀ (qs : List Addr) v G' H', Stt K F G' H' (some v :: σ) (rs qs :: es') → Same G G' → Q v H') → te σ H Q
def EvMG (K : PySem.W.Frag) (t : TA) (es es1 : List Sl) (as : List Ar) : Prop := ∀ F G H σ, Stt K F G H σ es → ∀ Q : List V → Hp → Prop, (∀ vs G' H', Stt K F G' H' σ es1 → Same G G' → ArOk K G' σ vs as → Q vs H') → t σ H Q
section
variable {K : PySem.W.Frag} {F G H : Hp} {σ : L2.St} {es es1 es2 es' : List Sl} {as : List Ar} {te : TE} {ta : TA} {d : Dt} {E : XK} {R : List Sl → (List Addr → Sl) → List Sl → Prop} {rs : List Addr → Sl} {ss' : List Sl}
theorem Stt.tl {v : Option V} {t : Sl} (s : Stt K F G H (v :: σ) (t :: es)) : Stt K F G H σ es where
  f := s.f
  g := s.g
  dj := s.dj
  len := by simpa using s.len
  sl := fun i t e => by simpa using s.sl (i + 1) t (by simpa using e)
  sp := fun i j t u x y a n ei ej hi hj => s.sp (i + 1) (j + 1) t u x y a (by omega) (by simpa using ei) (by simpa using ej) (by simpa using hi) (by simpa using hj)
theorem Stt.hd {v : V} (s : Stt K F G H (some v :: σ) (.d d :: es)) : Rep K G v d := by
  obtain ⟨o, ho, w, e, r⟩ := s.sl 0 _ rfl
  cases ho
  cases e
  exact r
theorem Stt.cons {v : V} (s : Stt K F G H σ es) (r : Rep K G v d) : Stt K F G H (some v :: σ) (.d d :: es) where
  f := s.f
  g := s.g
  dj := s.dj
  len := by simpa using s.len
  sl := fun i t e => by
    cases i with
    | zero => cases e; exact ⟨_, rfl, v, rfl, r⟩
    | succ i => simpa using s.sl i t (by simpa using e)
  sp := fun i j t u x y a n ei ej hi hj h1 h2 => by
    cases i with
    | zero => cases ei; exact h1.elim
    | succ i =>
      cases j with
      | zero => cases ej; exact h2.elim
      | succ j => exact s.sp i j t u x y a (by omega) (by simpa using ei) (by simpa using ej) (by simpa using hi) (by simpa using hj) h1 h2
theorem evm_ofS (h : EvS K te es es' fun _ => .d d) : EvM K te es es' d := fun F G H σ s Q q => h F G H σ s Q fun qs v G' H' s' g => q v G' H' s'.tl g s'.hd
theorem emg_nil : EvMG K tNil es es [] := fun F G H σ s Q q => q [] G H s (Same.refl _) trivial
theorem emg_d (h : EvM K te es es1 d) (r : EvMG K ta es1 es2 as) : EvMG K (tCons te ta) es es2 (.d d :: as) := fun F G H σ s Q q =>
  h F G H σ s _ fun v G1 H1 s1 g1 r1 => r F G1 H1 σ s1 _ fun vs G2 H2 s2 g2 r2 => q (v :: vs) G2 H2 s2 (g1.trans g2) ⟨r1.mono g2, r2⟩
theorem emg_v {i : Nat} {t : Sl} (hi : es[i]? = some t) (ho : t.isOwn = true) (r : EvMG K ta es es2 as) : EvMG K (tCons (tVar i) ta) es es2 (.v i :: as) := fun F G H σ s Q q => by
  obtain ⟨o, hs, k⟩ := s.sl i t hi
  obtain ⟨a, ea, _⟩ := k.hasOwn ho
  subst ea
  exact ⟨_, hs, r F G H σ s _ fun vs G2 H2 s2 g2 r2 => q (_ :: vs) G2 H2 s2 g2 ⟨hs, r2⟩⟩
/-- f(..) -/
theorem evs_call (ha : EvMG K ta es es1 as) (nd : nodupB (ixs as) = true) (hR : ∀ ps, ∃ ss', R (as.map (arS ps es1)) rs ss' ∧ putS as ss' es1 = es') : EvS K (tCall (FSpecG K R) [] E ta) es es' rs := fun F G H σ s Q q =>
  ha F G H σ s _ fun vs G1 H1 s1 g1 r1 => by
    obtain ⟨ps, hps⟩ := s1.names
    obtain ⟨ss1, hR1, he1⟩ := hR ps
    subst he1
    rw [List.append_nil]
    exact ⟨_, G1, _, rs, ss1, s1.lend r1 nd hps, hR1, fun qs v G2 H2 s2 g2 => q qs v G2 H2 (s1.back r1 nd s2 g2) (g1.trans g2)⟩
/-- o.m(..), o in slot i -/
theorem evs_meth {i : Nat} {m : Str} {C p : Addr} {us0 : List (Str × PF)} (hi0 : es[i]? = some (.prv (.obj p C us0))) (hm : us0.lookup m = none) (ha : EvMG K ta es es1 as) (nd : nodupB (ixs (.v i :: as)) = true) (hR : ∀ ps, ∃ ss', R ((Ar.v i :: as).map (arS ps es1)) rs ss' ∧ putS (.v i :: as) ss' es1 = es') : EvS K (tMeth C m (FSpecG K R) [] E (tVar i) ta) es es' rs := fun F G H σ s Q q => by
  obtain ⟨o0, ho0, nd0, e0, g0, f0, dx0, ws0, h0, r0⟩ := s.sl i _ hi0
  subst e0
  refine ⟨_, ho0, p, dx0, ws0, rfl, h0, r0.lookup_none hm, ha F G H σ s _ fun vs G1 H1 s1 g1 r1 => ?_⟩
  rw [List.append_nil]
  obtain ⟨ps, hps⟩ := s1.names
  obtain ⟨ss1, hR1, he1⟩ := hR ps
  subst he1
  have r2 : ArOk K G1 σ (V.ref p :: vs) (.v i :: as) := ⟨ho0, r1⟩
  exact ⟨_, G1, _, rs, ss1, s1.lend r2 nd hps, hR1, fun qs v G2 H2 s2 g2 => q qs v G2 H2 (s1.back r2 nd s2 g2) (g1.trans g2)⟩
/-- the first slot goes to its place -/
theorem Stt.settle {v : V} {t : Sl} {i : Nat} (s : Stt K F G H (some v :: σ) (t :: es)) : Stt K F G H (σ.set i (some v)) (es.set i t) := by
  have hl : σ.length = es.length := by simpa using s.len
  have at' : ∀ {j : Nat} {u : Sl}, (es.set i t)[j]? = some u → ∃ m, (t :: es)[m]? = some u ∧ (σ.set i (some v))[j]? = (some v :: σ)[m]? ∧ ((m = 0 ∧ j = i) ∨ (m = j + 1 ∧ j ≠ i)) := fun {j u} e => by
    by_cases q : i = j
    · subst q
      have hi := (List.getElem?_eq_some_iff.mp e).1
      rw [List.length_set] at hi
      rw [List.getElem?_set_self hi] at e
      cases e
      exact ⟨0, rfl, by rw [List.getElem?_set_self (by rw [hl]; exact hi)]; rfl, .inl ⟨rfl, rfl⟩⟩
    · rw [List.getElem?_set_ne q] at e
      exact ⟨j + 1, by simpa using e, by rw [List.getElem?_set_ne q]; simp, .inr ⟨rfl, Ne.symm q⟩⟩
  refine ⟨s.f, s.g, s.dj, by rw [List.length_set, List.length_set]; exact hl, fun j u e => ?_, fun j l u w x y a n ej el hj hl h1 h2 => ?_⟩
  · obtain ⟨m, em, hv, _⟩ := at' e
    obtain ⟨o, ho, k⟩ := s.sl m u em
    exact ⟨o, by rw [hv]; exact ho, k⟩
  · obtain ⟨m1, e1, v1, c1⟩ := at' ej
    obtain ⟨m2, e2, v2, c2⟩ := at' el
    rw [v1] at hj
    rw [v2] at hl
    exact s.sp m1 m2 u w x y a (by omega) e1 e2 hj hl h1 h2
theorem sm_setS {ρ : Type} {tz : TS} {m : Option ρ} {oc : ρ → Res} {i : Nat} {es2 : List Addr → List Sl} (h : EvS K te es es1 rs) (he : ∀ qs, es1.set i (rs qs) = es2 qs) (k : ∀ qs, SM K tz (es2 qs) m oc) : SM K (tSeq (tAsg te (gName i)) tz) es m oc := fun r e F G H σ D s q =>
  h F G H σ s _ fun qs v G1 H1 s1 g1 => k qs r e F G1 H1 _ D (he qs ▸ s1.settle) (q.up g1)
theorem evs_P {C : Addr} {fs : List Addr → List (Str × PF)} (h : EvP K te es (fun x => ∃ p qs, x = .obj p C (fs qs))) : EvS K te es es (fun qs => .prv (.obj (qs.getD 0 0) C (fs qs.tail))) := fun F G H σ s Q q =>
  h F G H σ s _ fun x v G1 H1 hR kx s1 g1 => by
    obtain ⟨p, qs, rfl⟩ := hR
    refine q (p :: qs) v G1 H1 ?_ g1
    show Stt K F G1 H1 (some v :: σ) (.prv (.obj p C (fs qs)) :: es)
    have up : ∀ a u, F a = some u → withA F H1 (PX.obj p C (fs qs)).adr a = some u := fun a u e => by
      unfold withA
      rw [if_neg fun m => by rw [(kx.at m).2.1] at e; cases e]
      exact e
    have dn : ∀ a, withA F H1 (PX.obj p C (fs qs)).adr a = none → a ∉ (PX.obj p C (fs qs)).adr ∧ F a = none := fun a e => by
      unfold withA at e
      by_cases c : a ∈ (PX.obj p C (fs qs)).adr
      · rw [if_pos c] at e
        obtain ⟨_, _, u, hu⟩ := kx.at c
        rw [hu] at e
        cases e
      · rw [if_neg c] at e
        exact ⟨c, e⟩
    have hno : ∀ (j : Nat) (u : Sl) (y : Option V) (a : Addr), es[j]? = some u → σ[j]? = some y → u.has y a → a ∉ (PX.obj p C (fs qs)).adr := fun j u y a ej hj h => by
      obtain ⟨o, ho, kk⟩ := s1.sl j u ej
      rw [hj] at ho
      cases ho
      exact (dn a (kk.at h).2.1).1
    refine ⟨fun a u e => s1.f a u (up a u e), s1.g, fun a u e => s1.dj a u (up a u e), by simpa using s1.len, fun j t e => ?_, fun i j t u x y a n ei ej hi hj h1 h2 => ?_⟩
    · cases j with
      | zero => cases e; exact ⟨_, rfl, kx⟩
      | succ j =>
        obtain ⟨o, ho, kk⟩ := s1.sl j t (by simpa using e)
        exact ⟨o, by simpa using ho, kk.tr (Same.refl _) fun a m g f => ⟨g, (dn a f).2, fun w hw => hw⟩⟩
    · cases i with
      | zero =>
        cases j with
        | zero => exact n rfl
        | succ j => cases ei; exact hno j u y a (by simpa using ej) (by simpa using hj) h2 h1
      | succ i =>
        cases j with
        | zero => cases ej; exact hno i t x a (by simpa using ei) (by simpa using hi) h1 h2
        | succ j => exact s1.sp i j t u x y a (by omega) (by simpa using ei) (by simpa using ej) (by simpa using hi) (by simpa using hj) h1 h2
end
/-! ### list(range(n)) -/
def lrgC (n : Int) : Option (List Int) := if 0 ≤ n ∧ n ≤ 16777216 then some (rng 0 n) else none
theorem rgV_rng (n : Int) : rgV 0 n = (rng 0 n).map V.int := by
  unfold rgV rng
  rw [List.map_map]
  rfl
section
variable {K : PySem.W.Frag} {es : List Sl} {te : TE} {n : Int} {xs : List Int}
theorem reps_ints {G : Hp} : ∀ (xs : List Int), Reps K G (xs.map V.int) (xs.map Dt.int)
  | [] => .nil
  | x :: xs => .cons (.int x) (reps_ints xs)
theorem el_listRg (ha : Ev K te es (.int n)) (h : lrgC n = some xs) : EvL K (tLstRg (tRg1 te)) es (xs.map Dt.int) := fun F G H σ s Q q => by
  unfold lrgC at h
  obtain ⟨⟨h0, h1⟩, rfl⟩ := ite_some h
  refine ha F G H σ s _ fun v G1 H1 s1 g1 r1 => ?_
  cases r1
  refine ⟨n, rfl, RgOk.of_le (by omega) h1 (by omega) h0, fun p hp => ?_⟩
  rw [rgV_rng]
  exact q p _ G1 _ (s1.prot hp) (s1.fnone hp) g1 (reps_ints _)
end
end DL

/-! Dl40: defs that are handed what is a slot's own; dicts of one's own in a slot -/
namespace DL
open PySem L2
def Sl.main : Sl → Option Addr
  | .own a _ => a
  | .obo a _ _ => a
  | .prv (.dct q _ _) => some q
  | .prv (.obj p _ _) => some p
  | _ => none
/-- what stays in its place -/
def Keep : List Sl → List Sl → Prop
  | [], [] => True
  | s :: ss, t :: ts => (t = .un ∨ ∃ p, s.main = some p ∧ t.main = some p) ∧ Keep ss ts
  | _, _ => False
theorem Keep.len : ∀ {ss ts : List Sl}, Keep ss ts → ss.length = ts.length
  | [], [], _ => rfl
  | _ :: _, _ :: _, h => congrArg (· + 1) (Keep.len h.2)
  | [], _ :: _, h => h.elim
  | _ :: _, [], h => h.elim
theorem Keep.get : ∀ {ss ts : List Sl} {k : Nat} {t : Sl}, Keep ss ts → ts[k]? = some t → ∃ s, ss[k]? = some s ∧ (t = .un ∨ ∃ p, s.main = some p ∧ t.main = some p)
  | [], [], _, _, _, e => by simp at e
  | s :: _, t :: _, 0, _, h, e => by cases e; exact ⟨s, rfl, h.1⟩
  | _ :: _, _ :: _, k + 1, _, h, e => by
    obtain ⟨s, h1, h2⟩ := Keep.get (k := k) h.2 (by simpa using e)
    exact ⟨s, by simpa using h1, h2⟩
  | [], _ :: _, _, _, h, _ => h.elim
  | _ :: _, [], _, _, h, _ => h.elim
section
variable {K : PySem.W.Frag} {F G H F' G' H' : Hp} {σ : L2.St} {es ss ss' : List Sl} {vs : List V} {r : Sl}
theorem SlOk.main_val {o : Option V} {s : Sl} {p : Addr} (h : SlOk K F G H o s) (e : s.main = some p) : o = some (.ref p) := by
  cases s with
  | un => cases e
  | d x => cases e
  | own a xs =>
    obtain ⟨q, vs, eo, _, _, _, _, an⟩ := h
    rw [eo, an p e]
  | obo a C fs =>
    obtain ⟨q, dx, vs, eo, _, _, _, _, an⟩ := h
    rw [eo, an p e]
  | prv x =>
    cases x with
    | dct q w kvs =>
      cases e
      obtain ⟨_, v, eo, e2, _⟩ := h
      rw [eo, e2]
    | obj q C fs =>
      cases e
      exact h.2.1
/-- a body's slots at its end are those of the arguments -/
theorem Stt.keep {v : V} (s0 : Stt K F G H (vs.map some) ss) (k : Keep ss ss') (s : Stt K F' G' H' (some v :: σ) (r :: (ss' ++ es))) : Stt K F' G' H' (some v :: vs.map some) (r :: ss') := by
  have hl : vs.length = ss'.length := by
    have := s0.len
    rw [List.length_map] at this
    rw [this, k.len]
  have hs : σ.length = (ss' ++ es).length := by simpa using s.len
  -- the same slot, the same value
  have cls : ∀ (j : Nat) (t : Sl), (r :: ss')[j]? = some t → (r :: (ss' ++ es))[j]? = some t := fun j t e => by
    cases j with
    | zero => exact e
    | succ j =>
      have e : ss'[j]? = some t := by simpa using e
      have := (List.getElem?_eq_some_iff.mp e).1
      simp only [List.getElem?_cons_succ]
      rw [List.getElem?_append_left this]
      exact e
  have val : ∀ (j : Nat) (t : Sl) (x : Option V), (r :: ss')[j]? = some t → (some v :: vs.map some)[j]? = some x → t = .un ∨ (some v :: σ)[j]? = some x := fun j t x e hx => by
    cases j with
    | zero => exact .inr hx
    | succ j =>
      have e' : ss'[j]? = some t := by simpa using e
      obtain ⟨s1, e1, c⟩ := k.get e'
      rcases c with c | ⟨p, m1, m2⟩
      · exact .inl c
      · right
        obtain ⟨o1, ho1, k1⟩ := s0.sl j s1 e1
        obtain ⟨o2, ho2, k2⟩ := s.sl (j + 1) t (cls _ _ e)
        have q1 := k1.main_val m1
        have q2 := k2.main_val m2
        have hx : (vs.map some)[j]? = some x := by simpa using hx
        rw [ho1] at hx
        cases hx
        rw [ho2, q2, q1]
  refine ⟨s.f, s.g, s.dj, by rw [List.length_cons, List.length_cons, List.length_map, hl], fun j t e => ?_, fun i j t u x y a n ei ej hi hj h1 h2 => ?_⟩
  · have hj : j < (some v :: vs.map some).length := by
      have := (List.getElem?_eq_some_iff.mp e).1
      rw [List.length_cons] at this
      rw [List.length_cons, List.length_map, hl]
      exact this
    have hx : (some v :: vs.map some)[j]? = some _ := List.getElem?_eq_getElem hj
    refine ⟨_, hx, ?_⟩
    rcases val j t _ e hx with rfl | hv
    · trivial
    · obtain ⟨o, ho, kk⟩ := s.sl j t (cls j t e)
      rw [hv] at ho
      cases ho
      exact kk
  · rcases val i t x ei hi with rfl | vi
    · exact h1.elim
    rcases val j u y ej hj with rfl | vj
    · exact h2.elim
    exact s.sp i j t u x y a n (cls i t ei) (cls j u ej) vi vj h1 h2
end
/-- what a body comes to -/
def EndG (K : PySem.W.Frag) (rs : List Addr → Sl) (ss' : List Sl) (o : Res) : Prop := ∃ es, ∀ F G (Q : VK), (∀ (qs : List Addr) v G' H' σ', Stt K F G' H' (some v :: σ') (rs qs :: (ss' ++ es)) → Same G G' → Q v H') → Good K F G { nx := fun _ H' => Q .non H', rt := Q } o
section
variable {K : PySem.W.Frag} {ss' es : List Sl} {d : Dt}
theorem endG_rt (es : List Sl) : EndG K (fun _ => .d d) ss' (.rt d (ss' ++ es)) := ⟨es, fun F G Q q v G' H' σ' s g r => q [] v G' H' σ' (s.cons r) g⟩
theorem endG_nx (es : List Sl) : EndG K (fun _ => .d .non) ss' (.nx (ss' ++ es)) := ⟨es, fun F G Q q G' H' σ' s g => q [] .non G' H' σ' (s.cons .non) g⟩
theorem endG_rs (qs : List Addr) {rs : List Addr → Sl} (es : List Sl) : EndG K rs ss' (.rs (rs qs) (ss' ++ es)) := ⟨es, fun F G Q q v G' H' σ' s g => q qs v G' H' σ' s g⟩
end
section
open PyProof.Rows
variable {P : Program} {w : World} {K : PySem.W.Frag} {mg : Str → Option Value} {base : Heap}
/-- THE RULE: a def that is handed what is a slot's own -/
theorem fn_G {x qual : Str} {st : Stmt} {f : Addr} {fd : FuncData} {N ps : List Str} {k : Nat} {R : List Sl → (List Addr → Sl) → List Sl → Prop} (F : Fun K x qual st f fd) (S : FnScope N ps (defScope st)) (hl : ∀ ss rs ss', R ss rs ss' → ss.length = ps.length ∧ Keep ss ss')
    (body : ∀ (cdv : Value) (A : Around) (outer : List Env) (s : Shared) (H : Hp) (E : XK), Room k (A.deeper (PyProof.Rows.envOfC qual (defScope st) s.heap.objs.size f cdv)) →
      ∃ t, PSs (cxOf CX0 P w K mg base N qual (defScope st) f cdv A outer s H E).nox (defBody st) t ∧ ∀ ss rs ss', R ss rs ss' → ∃ o, SEv K t (ss ++ List.replicate (N.length - ps.length) .un) o ∧ EndG K rs ss' o) :
    FnOk P w K mg base CX0 (k + 1) f fd ps (FSpecG K R) := by
  refine F.ok S (fun vs H Q E h => ?_) (fun cdv A outer s H vs Q E hr h => ?_)
  · obtain ⟨F, G, ss, rs, ss', s, hR, _⟩ := h
    have := s.len
    rw [List.length_map, (hl ss rs ss' hR).1] at this
    exact this
  · obtain ⟨t, ht, hb⟩ := body cdv A outer s H E hr
    refine ⟨t, ht, ?_⟩
    obtain ⟨F1, G, ss, rs, ss', st1, hR, q⟩ := h
    obtain ⟨o, hs, es, he⟩ := hb ss rs ss' hR
    exact hs F1 G H _ _ (stt_start st1 (by rw [(hl ss rs ss' hR).1])) (he F1 G Q fun qs v G' H' σ' s' g => q qs v G' H' (st1.keep (hl ss rs ss' hR).2 s') g)
end
/-! ### a dict in a slot -/
section
variable {K : PySem.W.Frag} {F G H G' H' : Hp} {σ : L2.St} {es es1 es' : List Sl} {ρ : Type} {m : Option ρ} {oc : ρ → Res} {tz : TS} {w : World} {kvs kvs' : List (Dt × Dt)} {te tk : TE} {d : Dt} {ds : List Dt} {i : Nat} {q : Addr}
theorem evs_dnew : EvS K (tDNewN w) es es (fun qs => .prv (.dct (qs.getD 0 0) w [])) := fun F G H σ s Q q => fun p hp => by
  refine q [p] (.ref p) G _ ?_ (Same.refl _)
  show Stt K F G (upd H p (NDO w p [])) (some (.ref p) :: σ) (.prv (.dct p w []) :: es)
  have keep : ∀ a u, H a = some u → upd H p (NDO w p []) a = some u := fun a u e => by
    rw [upd_ne (ne_of_none e hp)]
    exact e
  have nin : ∀ (j : Nat) (t : Sl) (o : Option V), es[j]? = some t → σ[j]? = some o → ¬ t.has o p := fun j t o et ho m => by
    obtain ⟨o', ho', k⟩ := s.sl j t et
    rw [ho] at ho'
    cases ho'
    obtain ⟨_, _, u, hu⟩ := k.at m
    rw [hp] at hu
    cases hu
  refine ⟨fun a u e => keep a u (s.f a u e), fun a u e => keep a u (s.g a u e), s.dj, by simpa using s.len, fun j t e => ?_, fun i j t u x y a n ei ej hi hj h1 h2 => ?_⟩
  · cases j with
    | zero =>
      cases e
      exact ⟨_, rfl, List.nodup_cons.mpr ⟨(fun z => nomatch z), List.nodup_nil⟩, _, rfl, rfl, s.gnone hp, s.fnone hp, [], upd_same, .nil⟩
    | succ j =>
      obtain ⟨o, ho, k⟩ := s.sl j t (by simpa using e)
      exact ⟨o, by simpa using ho, k.tr (Same.refl _) fun a m g f => ⟨g, f, fun u hu => keep a u hu⟩⟩
  · cases i with
    | zero =>
      cases j with
      | zero => exact n rfl
      | succ j =>
        cases ei
        have h1 : a ∈ [p] := h1
        rw [List.mem_singleton.mp h1] at h2
        exact nin j u y (by simpa using ej) (by simpa using hj) h2
    | succ i =>
      cases j with
      | zero =>
        cases ej
        have h2 : a ∈ [p] := h2
        rw [List.mem_singleton.mp h2] at h1
        exact nin i t x (by simpa using ei) (by simpa using hi) h1
      | succ j => exact s.sp i j t u x y a (by omega) (by simpa using ei) (by simpa using ej) (by simpa using hi) (by simpa using hj) h1 h2
/-- x[k] = v, a dict in a slot -/
theorem sm_setDD (hi : es[i]? = some (.prv (.dct q w kvs))) (hv : Ev K te es d) (hk : Ev K tk es (.tup ds)) (hm : putDC kvs ds d = some kvs') (he : es.set i (.prv (.dct q w kvs')) = es') (k : SM K tz es' m oc) :
    SM K (tSeq (tAsg te (gSub (tVar i) tk (rSetN K w))) tz) es m oc := fun r e F G H σ D s qd => by
  subst he
  unfold putDC at hm
  cases hn : nkC (.tup ds) with
  | none => rw [hn] at hm; cases hm
  | some kk =>
    rw [hn] at hm
    obtain ⟨hl, rfl⟩ := ite_some (show (if kvs.length ≤ 5000000 then some (putK2 kvs kk (.tup ds) d) else none) = some kvs' from hm)
    refine hv F G H σ s _ fun v G1 H1 s1 g1 r1 => ?_
    obtain ⟨o1, ho1, nd1, v1, e1, ev1, gp1, fp1, xs1, hp1, rr1⟩ := s1.sl i _ hi
    subst e1 ev1
    refine ⟨.ref q, ho1, ?_⟩
    refine hk F G1 H1 σ s1 _ fun u G2 H2 s2 g2 r2 => ?_
    cases r2 with
    | @tup b ys _ hs rs =>
      obtain ⟨o2, ho2, nd2, v2, e2, ev2, gp2, fp2, xs2, hp2, rr2⟩ := s2.sl i _ hi
      obtain ⟨kd, k8⟩ := nkC_of hn
      have sz : (10000000 : Nat) < sizeLine := by decide
      have rt : Rep K G2 (.ref b) (.tup ds) := .tup hs rs
      refine ⟨q, xs2, kk, b, rfl, hp2, repK_all rr2 s2.g, rfl, rep_nk (rt.mono s2.g) kd, k8, by rw [repK_len rr2]; omega, ?_⟩
      have hlt := (List.getElem?_eq_some_iff.mp hi).1
      have st : Stt K F G2 (upd H2 q (NDO w q (putN xs2 kk b v))) σ (es.set i (.prv (.dct q w (putK2 kvs kk (.tup ds) d)))) := by
        refine ⟨fun a o e => ?_, fun a o e => ?_, s2.dj, by rw [List.length_set]; exact s2.len, fun j t e => ?_, sp_setK s2.sp hi fun z a h => h⟩
        · rw [upd_ne (ne_of_none e fp2)]; exact s2.f a o e
        · rw [upd_ne (ne_of_none e gp2)]; exact s2.g a o e
        · by_cases z : i = j
          · subst z
            rw [List.getElem?_set_self hlt] at e
            cases e
            refine ⟨o2, ho2, nd2, v2, e2, ev2, gp2, fp2, _, upd_same, repK_put rr2 kd k8 rt (r1.mono g2)⟩
          · rw [List.getElem?_set_ne z] at e
            obtain ⟨o, ho, kx⟩ := s2.sl j t e
            refine ⟨o, ho, kx.tr (Same.refl _) fun a m g f => ⟨g, f, fun y hy => ?_⟩⟩
            have : a ≠ q := fun zz => by
              subst zz
              exact s2.sp i j _ t _ _ a z hi e ho2 ho (List.mem_singleton.mpr rfl) m
            rw [upd_ne this]
            exact hy
      exact k r e F G2 _ σ D st (qd.up (g1.trans g2))
end
/-! ### and, or whose second side changes the slots -/
section
variable {K : PySem.W.Frag} {es : List Sl} {ta tb : TE} {S : Type} {en : S → List Sl}
theorem evm_pure1 {te : TE} {b : Bool} {s : S} (h : EvM K te es (en s) (.bl b)) : ∀ q, some (b, s) = some q → EvM K te es (en q.2) (.bl q.1) := fun q e => by cases e; exact h
theorem evm_bnd1 {γ : Type} {te : TE} {m1 : Option γ} {k : γ → Option (Bool × S)} (h : ∀ x, m1 = some x → ∀ q, k x = some q → EvM K te es (en q.2) (.bl q.1)) : ∀ q, m1.bind k = some q → EvM K te es (en q.2) (.bl q.1) := fun q e => by
  cases z : m1 with
  | none => rw [z] at e; cases e
  | some x => rw [z] at e; exact h x z q e
theorem evm_andV {x : Bool} {m : Option (Bool × S)} {s0 : S} {r : Bool × S} (h1 : Ev K ta es (.bl x)) (h0 : en s0 = es) (h2 : x = true → ∀ q, m = some q → EvM K tb es (en q.2) (.bl q.1)) (h : (if x = true then m else some (false, s0)) = some r) : EvM K (tAndV ta tb) es (en r.2) (.bl r.1) := fun F G H σ s Q q => h1 F G H σ s _ fun v G1 H1 s1 g1 r1 => by
  cases r1
  refine ⟨x, rfl, ?_⟩
  cases x with
  | false =>
    cases h
    exact q (.bl false) G1 H1 (by show Stt K F G1 H1 σ (en s0); rw [h0]; exact s1) g1 (.bl false)
  | true => exact h2 rfl r h F G1 H1 σ s1 Q fun v G2 H2 s2 g2 r2 => q v G2 H2 s2 (g1.trans g2) r2
end
end DL

/-! Dl41: not x, where x changes the slots; x is False, x None or a bool -/
namespace L2
open PySem PySem.Spec PyProof.Rows
def rIsOB : R2 := fun x y H Q => ∃ b : Bool, y = .bl b ∧ ((x = .non ∧ Q (.bl false) H) ∨ ∃ a : Bool, x = .bl a ∧ Q (.bl (decide (a = b))) H)
theorem op_isOB {X : Cx} : OpR X (compareOp .Is) rIsOB := by
  intro pins s σ H x y v u Q I rx ry h
  obtain ⟨b, rfl, h⟩ := h
  cases (show u = Value.bool b from ry)
  rcases h with ⟨rfl, q⟩ | ⟨a, rfl, q⟩
  · cases (show v = Value.none from rx)
    exact wpAny_is_other rfl (fun z => nomatch z) ⟨.bl false, H, I, rfl, q⟩
  · cases (show v = Value.bool a from rx)
    by_cases e : a = b
    · subst e
      exact wpAny_is_self rfl ⟨.bl true, H, I, rfl, by simpa using q⟩
    · exact wpAny_is_other rfl (fun z => e (Value.bool.inj z)) ⟨.bl false, H, I, rfl, by simpa [e] using q⟩
end L2
namespace DL
open PySem L2
section
variable {K : PySem.W.Frag} {es es' : List Sl} {ta : TE}
theorem evm_notV {x : Bool} (h1 : EvM K ta es es' (.bl x)) : EvM K (tNotV ta) es es' (.bl (!x)) := fun F G H σ s Q q => h1 F G H σ s _ fun v G1 H1 s1 g1 r1 => by
  cases r1
  exact ⟨x, rfl, q _ G1 H1 s1 g1 (.bl _)⟩
theorem ev_isOB {tb : TE} {o : Option Bool} {b : Bool} (ha : Ev K ta es (dO Dt.bl o)) (hb : Ev K tb es (.bl b)) : Ev K (tOp rIsOB ta tb) es (.bl (decide (o = some b))) := ev_op ha hb fun F G H σ es x y s rx ry Q q => by
  cases ry
  cases o with
  | none =>
    have rx : Rep K G x .non := rx
    cases rx
    exact ⟨b, rfl, .inl ⟨rfl, q _ G H s (Same.refl _) (.bl _)⟩⟩
  | some a =>
    have rx : Rep K G x (.bl a) := rx
    cases rx
    refine ⟨b, rfl, .inr ⟨a, rfl, ?_⟩⟩
    have := q (.bl (decide (some a = some b))) G H s (Same.refl _) (.bl _)
    have e : decide (some a = some b) = decide (a = b) := by
      by_cases c : a = b
      · rw [decide_eq_true c, decide_eq_true (congrArg some c)]
      · rw [decide_eq_false c, decide_eq_false fun z => c (Option.some.inj z)]
    rw [e] at this
    exact this
end
end DL

/-! Dl42: defs that raise plain exceptions, and write to what is a slot's own; tries around their calls -/
namespace L2
open PySem PySem.Spec PyProof.Rows
section
variable {X : Cx} {CX : CXT} {k n : Nat} {C f : Addr} {m : Str} {fd : FuncData} {ps ks : List Str} {sp : Sp} {E : St → XK} {o e : Expr} {es : List Expr} {kws : List Keyword} {ta : TE} {t tk : TA} {apos pos : Pos} {g : List Value → List Value → List Value} {gV : List V → List V → List V}
def tMethY (C : Addr) (m : Str) (sp : Sp) (E : St → XK) (ta : TE) (t : TA) : TE := fun σ H Q => ta σ H fun x H1 => ∃ a dx fs, x = .ref a ∧ H1 a = some (.ins C dx fs) ∧ fs.lookup m = none ∧ t σ H1 fun vs H2 => sp (x :: vs) H2 Q (E σ)
theorem pe_methY {pl : Sem Bool} (he : PE X o ta) (c : Cls X.K C) (hm : Meth X.K C m f) (F : FnOk X.prog X.w X.K X.mg X.base CX k f fd ps sp) (hr : Room k X.A) (hb : Binds X.K fd ps []) (hx : ∀ σ, PassesAt CX X σ (E σ)) (ha : PA X (e :: es) t)
    (hst : starEach (e :: es) X.env = (false, eval e X.env) :: starEach es X.env := by rfl) (hpl : (backTo pos (starEach es X.env)).any (·.1) = false := by rfl)
    (ht : eval (.Call (.Attribute o m apos) (e :: es) [] pos) X.env = (do
      let ov ← eval o X.env
      standAt apos.atName
      let (f, first) ← holding [ov] (getMethod ov m pl)
      callWith pos f first (backTo pos (starEach (e :: es) X.env)) (backToKw pos (keywordEach [] X.env))) := by rfl) :
    PE X (.Call (.Attribute o m apos) (e :: es) [] pos) (tMethY C m sp E ta t) := by
  refine ⟨fun pins s σ H Q I h => ?_⟩
  refine PySem.W.methodCall_KW (pl := pl) (thn (he.run pins s σ H _ I h) fun u s1 ⟨x, H1, I1, rx, a, dx, fs, ex, ea, l, q⟩ => ?_) ht
  subst ex
  obtain rfl : u = Value.ref a := rx
  refine getmeth_ok I1 ea c hm l ?_
  refine PySem.W.callWith_K (first := [.ref a]) (h₀ := X.base) I.ok.mod.kin hm.kp (thn (ha.run pos pins s1 σ H1 _ I1 q) fun us s2 ⟨vs, H2, I2, r, q2⟩ => ⟨I2.kIn, ?_⟩) hst hpl
  exact run_fnS (us := .ref a :: us) (vs := .ref a :: vs) F hr hb (hx σ) I2 (.cons rfl r) q2
def tMethKS (C : Addr) (m : Str) (n mm : Nat) (sp : Sp) (gV : List V → List V → List V) (E : St → XK) (ta : TE) (t tk : TA) : TE := fun σ H Q => ta σ H fun x H1 => ∃ a dx fs, x = .ref a ∧ H1 a = some (.ins C dx fs) ∧ fs.lookup m = none ∧
  t σ H1 fun vs H2 => tk σ H2 fun zs H3 => vs.length + 1 = n ∧ zs.length = mm ∧ sp (gV (x :: vs) zs) H3 Q (E σ)
theorem pe_methKS {pl : Sem Bool} (he : PE X o ta) (c : Cls X.K C) (hm : Meth X.K C m f) (F : FnOk X.prog X.w X.K X.mg X.base CX k f fd ps sp) (hr : Room k X.A) (hb : KBn X.K fd ps n ks g gV) (hx : ∀ σ, PassesAt CX X σ (E σ)) (ha : PA X (e :: es) t)
    (hkw : PK X kws tk) (hall : (backToKw pos (keywordEach kws X.env)).all (·.1.isSome) = true := by rfl) (hks : (backToKw pos (keywordEach kws X.env)).filterMap (·.1) = ks := by rfl)
    (hst : starEach (e :: es) X.env = (false, eval e X.env) :: starEach es X.env := by rfl)
    (hpl : ((backTo pos (starEach (e :: es) X.env)).any (·.1) || (backToKw pos (keywordEach kws X.env)).any (·.1.isNone)) = false := by rfl)
    (ht : eval (.Call (.Attribute o m apos) (e :: es) kws pos) X.env = (do
      let ov ← eval o X.env
      standAt apos.atName
      let (f, first) ← holding [ov] (getMethod ov m pl)
      callWith pos f first (backTo pos (starEach (e :: es) X.env)) (backToKw pos (keywordEach kws X.env))) := by rfl) :
    PE X (.Call (.Attribute o m apos) (e :: es) kws pos) (tMethKS C m n ks.length sp gV E ta t tk) := by
  refine ⟨fun pins s σ H Q I h => ?_⟩
  refine PySem.W.methodCall_KW (pl := pl) (thn (he.run pins s σ H _ I h) fun u s1 ⟨x, H1, I1, rx, a, dx, fs, ex, ea, l, q⟩ => ?_) ht
  subst ex
  obtain rfl : u = Value.ref a := rx
  refine getmeth_ok I1 ea c hm l ?_
  refine PySem.W.callWith_KW (first := [.ref a]) (h₀ := X.base) I.ok.mod.kin hm.kp hall (thn (ha.run pos pins s1 σ H1 _ I1 q) fun us s2 ⟨vs, H2, I2, r, q2⟩ => ?_) hpl hst
  refine thn (hkw.run pos pins s2 σ H2 _ I2 q2) fun ws s3 ⟨zs, H3, I3, rz, l1, l2, q3⟩ => ⟨I3.kIn, ?_⟩
  rw [hks]
  exact run_fnNS (us := .ref a :: us) (vs := .ref a :: vs) F hr hb (hx σ) I3 (.cons rfl r) rz l1 l2 q3
end
def tRaiseV (W : WX) (C : Addr) (ta : TE) : TS := fun _ σ H => ta σ H fun _ H1 => W (.ref C) none σ H1
theorem ps_raiseV {X : Cx} {W : WX} {x : Str} {e : Expr} {C : Addr} {ta : TE} {p pos pos' : Pos} (hc : X.calm = true) (tk : Takes X W) (T : ExcP X.K X.mg x C) (hg : Gl X x) (he : PE X e ta) (hs : starEach [e] X.env = (false, eval e X.env) :: starEach [] X.env := by rfl) (hdb : (x == ("__debug__" : Str)) = false := by decide) :
    PS X (.Raise (some (.Call (.Name x p) [e] [] pos)) none pos') (tRaiseV W C ta) := ps_raise hc tk (SkE.pmk_own1 PySem.F.excBase_ValueError T.q T.g T.k (raises_own T.s T.t) hg he hs hdb)
/-- isinstance of a plain exception that is caught -/
def rIsZ (K : PySem.W.Frag) (D a : Addr) (cls : Value) (d : Option Addr) : List V → Hp → VK → Prop := fun xs H Q => ∃ (c : V) (cv : Value) (b : Bool), xs = [.ref a, c] ∧ cls = .ref D ∧ d = none ∧ (∀ u, RelV c u → u = cv) ∧ PySem.W.kitOne K (.ref D) cv = some b ∧ Q (.bl b) H
theorem call_isZ {X : Cx} {a D : Addr} {oe : Obj} {cls : Value} {d : Option Addr} {pn : List (Addr × Obj)} (C : IsX X.K D) (hz : Zc cls d oe) (hf : ∃ vs, oe.data = .fields vs) : CallR (X.suite a ((a, oe) :: pn)) (.builtin "isinstance") (rIsZ X.K D a cls d) := by
  intro pins s σ H xs us Q I r h
  obtain ⟨c, cv, b, rfl, ec, ed, hcv, e, q⟩ := h
  subst ec
  subst ed
  cases r with
  | cons rx rr =>
    cases rr with
    | cons rt rr =>
      cases rr
      cases rx
      have ec := hcv _ rt
      subst ec
      obtain ⟨hget, _⟩ := I.pin (a, oe) (List.mem_append.mpr (.inl List.mem_cons_self))
      obtain ⟨vs, hv⟩ := hf
      have J : PySem.W.InstAt s.heap a oe D none := ⟨hget, hz.1, by unfold PySem.W.notCls; rw [hv] <;> rfl, by rw [hz.2]; trivial⟩
      have hcl : (PySem.W.clsIn X.K D).isSome = true := by
        obtain ⟨cd, hc, _⟩ := PySem.W.any_some C.hd
        rw [hc]
        rfl
      exact PySem.W.kia_one (PySem.W.kitx_exc hcl C.ga C.gg C.sub C.ia C.ib C.ic C.id) I.kIn J e (fun z => nomatch z) fun tk => ⟨.bl b, H, I.kept (t' := tk) fun _ _ z => z, rfl, q⟩
end L2
namespace DL
open PySem L2
/-- what a def that may raise comes to -/
inductive Rx (R : Type) where
  | ok (r : R) | no (c : Nat)
def Rx.get {R : Type} : Rx R → Option R
  | .ok r => some r
  | .no _ => none
def Rx.thn {R ρ : Type} (k : R → Option ρ) (e : Nat → Option ρ) : Rx R → Option ρ
  | .ok r => k r
  | .no c => e c
theorem Rx.get_ok {R : Type} {m : Option (Rx R)} {r : R} (h : m.bind Rx.get = some r) : m = some (.ok r) := by
  cases m with
  | none => cases h
  | some x =>
    cases x with
    | ok v => cases h; rfl
    | no c => cases h
def Rx.out {R ρ : Type} (k : R → ρ) (e : Nat → ρ) : Rx R → ρ
  | .ok r => k r
  | .no c => e c
inductive Out where
  | ret (rs : List Addr → Sl) (ss : List Sl) | exc (c : Addr) (ss : List Sl)
def Out.slots : Out → List Sl
  | .ret _ ss => ss
  | .exc _ ss => ss
def GoodO (K : PySem.W.Frag) (F G : Hp) (σ : L2.St) (Q : VK) (E : XK) : Out → Prop
  | .ret rs ss => ∀ (qs : List Addr) v G' H', Stt K F G' H' (some v :: σ) (rs qs :: ss) → Same G G' → Q v H'
  | .exc c ss => ∀ G' H', Stt K F G' H' σ ss → Same G G' → E (.ref c) none H'
def FSpecW (K : PySem.W.Frag) (R : List Sl → Out → Prop) : Sp := fun vs H Q E => ∃ F G ss o, Stt K F G H (vs.map some) ss ∧ R ss o ∧ GoodO K F G (vs.map some) Q E o
/-- a statement's outcome is a def's -/
def EndW (K : PySem.W.Frag) (E : XK) (o : Out) (ro : Res) : Prop := ∃ es, ∀ F G (Q : VK), (match o with
  | .ret rs ss => ∀ (qs : List Addr) v G' H' σ', Stt K F G' H' (some v :: σ') (rs qs :: (ss ++ es)) → Same G G' → Q v H'
  | .exc c ss => ∀ G' H' σ', Stt K F G' H' σ' (ss ++ es) → Same G G' → E (.ref c) none H') → Good K F G { nx := fun _ H' => Q .non H', rt := Q } ro
section
variable {K : PySem.W.Frag} {ss : List Sl} {d : Dt} {E : XK}
theorem endW_rt (es : List Sl) : EndW K E (.ret (fun _ => .d d) ss) (.rt d (ss ++ es)) := ⟨es, fun F G Q q v G' H' σ' s g r => q [] v G' H' σ' (s.cons r) g⟩
theorem endW_nx (es : List Sl) : EndW K E (.ret (fun _ => .d .non) ss) (.nx (ss ++ es)) := ⟨es, fun F G Q q G' H' σ' s g => q [] .non G' H' σ' (s.cons .non) g⟩
theorem endW_xr (es : List Sl) {c : Addr} : EndW K E (.exc c ss) (.xr (fun _ => E) c (ss ++ es)) := ⟨es, fun F G Q q G' H' σ' s g => q G' H' σ' s g⟩
theorem endW_out {R : Type} {r : Rx R} {a : R → Out} {b : Nat → Out} {x : R → Res} {y : Nat → Res} (h1 : ∀ v, EndW K E (a v) (x v)) (h2 : ∀ c, EndW K E (b c) (y c)) : EndW K E (r.out a b) (r.out x y) := by
  cases r with
  | ok v => exact h1 v
  | no c => exact h2 c
end
section
open PyProof.Rows
variable {P : Program} {w : World} {K : PySem.W.Frag} {mg : Str → Option Value} {base : Heap}
theorem fn_W {x qual : Str} {st : Stmt} {f : Addr} {fd : FuncData} {N ps : List Str} {k : Nat} {R : List Sl → Out → Prop} (F : Fun K x qual st f fd) (S : FnScope N ps (defScope st)) (hl : ∀ ss o, R ss o → ss.length = ps.length ∧ Keep ss o.slots)
    (body : ∀ (cdv : Value) (A : Around) (outer : List Env) (s : Shared) (H : Hp) (E : XK), Room k (A.deeper (PyProof.Rows.envOfC qual (defScope st) s.heap.objs.size f cdv)) →
      ∃ t, PSs (cxOf (L2.CX P w) P w K mg base N qual (defScope st) f cdv A outer s H E) (defBody st) t ∧ ∀ ss o, R ss o → ∃ ro, SEv K t (ss ++ List.replicate (N.length - ps.length) .un) ro ∧ EndW K E o ro) :
    FnOk P w K mg base (L2.CX P w) (k + 1) f fd ps (FSpecW K R) := by
  refine F.okX S (fun vs H Q E h => ?_) (fun cdv A outer s H vs Q E hr h => ?_)
  · obtain ⟨F, G, ss, o, s, hR, _⟩ := h
    have := s.len
    rw [List.length_map, (hl ss o hR).1] at this
    exact this
  · obtain ⟨t, ht, hb⟩ := body cdv A outer s H E hr
    refine ⟨t, ht, ?_⟩
    obtain ⟨F1, G, ss, o, st1, hR, q⟩ := h
    obtain ⟨ro, hs, es, he⟩ := hb ss o hR
    have hk := (hl ss o hR).2
    refine hs F1 G H _ _ (stt_start st1 (by rw [(hl ss o hR).1])) (he F1 G Q ?_)
    cases o with
    | ret rs ss2 => exact fun qs v G' H' σ' s' g => q qs v G' H' (st1.keep hk s') g
    | exc c ss2 => exact fun G' H' σ' s' g => q G' H' (st1.keep hk (s'.cons (v := .non) (d := .non) .non)).tl g
/-- where no exception is awaited -/
theorem fn_noW {f : Addr} {fd : FuncData} {ps : List Str} {k : Nat} {R : List Sl → Out → Prop} {R2 : List Sl → (List Addr → Sl) → List Sl → Prop} (F1 : FnOk P w K mg base (L2.CX P w) k f fd ps (FSpecW K R)) (h : ∀ ss rs ss2, R2 ss rs ss2 → R ss (.ret rs ss2)) : FnOk P w K mg base CX0 k f fd ps (FSpecG K R2) := by
  have key : ∀ {vs H Q E}, FSpecG K R2 vs H Q E → FSpecW K R vs H Q (fun _ _ _ => False) := fun {vs H Q E} ⟨F, G, ss, rs, ss2, s, hR, q⟩ => ⟨F, G, ss, .ret rs ss2, s, h ss rs ss2 hR, q⟩
  refine ⟨fun vs H Q E hq => F1.len vs H Q _ (key hq), fun A outer s H args us vs Q E hr he hb hv hs => codeAny_mono (F1.run A outer s H args us vs Q _ hr he hb hv (key hs)) fun r s' q => ?_⟩
  cases r with
  | ok fl => cases fl <;> exact q
  | error e =>
    obtain ⟨a, B, H', cls, d, _, _, _, _, _, _, _, hE⟩ := q
    exact hE.elim
theorem reps_undo {F G H F' G' H' : Hp} {vs : List V} {ds : List Dt} (s : Stt K F G H (vs.map some) (ds.map .d)) : Reps K G vs ds := data_of (vs := vs) (ds := ds) (K := K) (F := F) (G := G) (H := H) s.len s.sl
/-- all arguments are data -/
theorem fn_WD {f : Addr} {fd : FuncData} {ps : List Str} {k : Nat} {R : List Sl → Out → Prop} {P2 : List Dt → Dt → Prop} (F1 : FnOk P w K mg base (L2.CX P w) k f fd ps (FSpecW K R)) (h : ∀ ds d, P2 ds d → ∃ ss2, R (ds.map .d) (.ret (fun _ => .d d) ss2)) : FnOk P w K mg base CX0 k f fd ps (FSpec K (RD P2)) := by
  have key : ∀ {vs H Q E}, FSpec K (RD P2) vs H Q E → FSpecW K R vs H Q (fun _ _ _ => False) := fun {vs H Q E} ⟨F, G, ss, d, ss2, s, ⟨ds, e1, e2, hP⟩, q⟩ => by
    subst e1 e2
    obtain ⟨ss3, hR⟩ := h ds d hP
    refine ⟨F, G, _, _, s, hR, fun qs v G' H' s' g => ?_⟩
    have r := reps_undo (F' := F) (G' := G) (H' := H) s
    exact q v G' H' (stt_data s'.f s'.g s'.dj (r.mono g)) g s'.hd
  refine ⟨fun vs H Q E hq => F1.len vs H Q _ (key hq), fun A outer s H args us vs Q E hr he hb hv hs => codeAny_mono (F1.run A outer s H args us vs Q _ hr he hb hv (key hs)) fun r s' q => ?_⟩
  cases r with
  | ok fl => cases fl <;> exact q
  | error e =>
    obtain ⟨a, B, H', cls, d, _, _, _, _, _, _, _, hE⟩ := q
    exact hE.elim
end
/-! ### calls that may raise -/
def EvW (K : PySem.W.Frag) (te : TE) (es : List Sl) (o : Out) (W : L2.St → XK) : Prop := ∀ F G H σ, Stt K F G H σ es → ∀ Q : VK, GoodO K F G σ Q (W σ) o → te σ H Q
def backO (as : List Ar) (es : List Sl) : Out → Out
  | .ret rs ss => .ret rs (putS as ss es)
  | .exc c ss => .exc c (putS as ss es)
theorem GoodO.up {K : PySem.W.Frag} {F G G1 : Hp} {σ : L2.St} {Q : VK} {E : XK} {o : Out} (h : GoodO K F G σ Q E o) (g : Same G G1) : GoodO K F G1 σ Q E o := by
  cases o with
  | ret rs ss => exact fun qs v G' H' s e => h qs v G' H' s (g.trans e)
  | exc c ss => exact fun G' H' s e => h G' H' s (g.trans e)
section
variable {K : PySem.W.Frag} {F G H : Hp} {σ : L2.St} {es es1 es2 es' fs : List Sl} {as ak as2 : List Ar} {te to : TE} {ta tk : TA} {d : Dt} {W : L2.St → XK} {R : List Sl → Out → Prop} {o : Out} {C p c : Addr}
theorem Stt.backW {vs : List V} {E : XK} {Q : VK} {o0 : Out} (s1 : Stt K F G H σ es1) (r1 : ArOk K G σ vs as) (nd : nodupB (ixs as) = true) (q : GoodO K F G σ Q E (backO as es1 o0)) : GoodO K (remW G H (ownW σ es1 as)) G (vs.map some) Q E o0 := by
  cases o0 with
  | ret rs ss => exact fun qs v G2 H2 s2 g2 => q qs v G2 H2 (s1.back r1 nd s2 g2) g2
  | exc c ss => exact fun G2 H2 s2 g2 => q G2 H2 (s1.back (v := .non) (r := .d .non) r1 nd (s2.cons .non) g2).tl g2
theorem evw_call (ha : EvMG K ta es es1 as) (nd : nodupB (ixs as) = true) (hR : ∀ ps, ∃ o0, R (as.map (arS ps es1)) o0 ∧ backO as es1 o0 = o) : EvW K (tCallS (FSpecW K R) W ta) es o W := fun F G H σ s Q q =>
  ha F G H σ s _ fun vs G1 H1 s1 g1 r1 => by
    obtain ⟨ps, hps⟩ := s1.names
    obtain ⟨o0, hR1, e⟩ := hR ps
    subst e
    exact ⟨_, G1, _, o0, s1.lend r1 nd hps, hR1, s1.backW r1 nd (q.up g1)⟩
theorem evw_meth {i : Nat} {m : Str} {us0 : List (Str × PF)} (hi0 : es[i]? = some (.prv (.obj p C us0))) (hm : us0.lookup m = none) (ha : EvMG K ta es es1 as) (nd : nodupB (ixs (.v i :: as)) = true) (hR : ∀ ps, ∃ o0, R ((Ar.v i :: as).map (arS ps es1)) o0 ∧ backO (.v i :: as) es1 o0 = o) : EvW K (tMethY C m (FSpecW K R) W (tVar i) ta) es o W := fun F G H σ s Q q => by
  obtain ⟨o0, ho0, nd0, e0, g0, f0, dx0, ws0, h0, r0⟩ := s.sl i _ hi0
  subst e0
  refine ⟨_, ho0, p, dx0, ws0, rfl, h0, r0.lookup_none hm, ha F G H σ s _ fun vs G1 H1 s1 g1 r1 => ?_⟩
  obtain ⟨ps, hps⟩ := s1.names
  obtain ⟨o1, hR1, e⟩ := hR ps
  subst e
  have r2 : ArOk K G1 σ (V.ref p :: vs) (.v i :: as) := ⟨ho0, r1⟩
  exact ⟨_, G1, _, o1, s1.lend r2 nd hps, hR1, s1.backW r2 nd (q.up g1)⟩
theorem evw_methK {i n mm : Nat} {m : Str} {us0 : List (Str × PF)} {gV : List V → List V → List V} (hi0 : es[i]? = some (.prv (.obj p C us0))) (hm : us0.lookup m = none) (ha : EvMG K ta es es1 as) (hk : EvMG K tk es1 es2 ak) (hn : as.length + 1 = n) (hmm : ak.length = mm) (hf : ∀ G σ vs zs, ArOk K G σ vs (.v i :: as) → ArOk K G σ zs ak → ArOk K G σ (gV vs zs) as2) (nd : nodupB (ixs as2) = true) (hR : ∀ ps, ∃ o0, R (as2.map (arS ps es2)) o0 ∧ backO as2 es2 o0 = o) : EvW K (tMethKS C m n mm (FSpecW K R) gV W (tVar i) ta tk) es o W := fun F G H σ s Q q => by
  obtain ⟨o0, ho0, nd0, e0, g0, f0, dx0, ws0, h0, r0⟩ := s.sl i _ hi0
  subst e0
  refine ⟨_, ho0, p, dx0, ws0, rfl, h0, r0.lookup_none hm, ha F G H σ s _ fun vs G1 H1 s1 g1 r1 => hk F G1 H1 σ s1 _ fun zs G2 H2 s2 g2 r2 => ⟨by rw [r1.len]; exact hn, by rw [r2.len]; exact hmm, ?_⟩⟩
  obtain ⟨ps, hps⟩ := s2.names
  obtain ⟨o1, hR1, e⟩ := hR ps
  subst e
  have r3 : ArOk K G2 σ (V.ref p :: vs) (.v i :: as) := ⟨ho0, r1.mono g2⟩
  have r4 := hf G2 σ _ zs r3 r2
  exact ⟨_, G2, _, o1, s2.lend r4 nd hps, hR1, s2.backW r4 nd (q.up (g1.trans g2))⟩
theorem ArOk.app : ∀ {vs ws : List V} {as bs : List Ar}, ArOk K G σ vs as → ArOk K G σ ws bs → ArOk K G σ (vs ++ ws) (as ++ bs)
  | [], _, [], _, _, h => h
  | _ :: _, _, .v _ :: _, _, h, k => ⟨h.1, ArOk.app h.2 k⟩
  | _ :: _, _, .d _ :: _, _, h, k => ⟨h.1, ArOk.app h.2 k⟩
  | [], _, .v _ :: _, _, h, _ => h.elim
  | [], _, .d _ :: _, _, h, _ => h.elim
  | _ :: _, _, [], _, h, _ => h.elim
theorem ArOk.one {x : Dt} : ∀ {zs : List V}, ArOk K G σ zs [.d x] → ArOk K G σ ((zs.drop 0).take 1) [.d x]
  | [z], h => h
  | [], h => h.elim
  | _ :: _ :: _, h => h.2.elim
/-- the object is data -/
theorem evw_methD {m : Str} {gs : List (Str × Dt)} (ho : Ev K to es (.obj C gs)) (hm : gs.lookup m = none) (ha : EvMG K ta es es1 as) (nd : nodupB (ixs (.d (.obj C gs) :: as)) = true) (hR : ∀ ps, ∃ o0, R ((Ar.d (.obj C gs) :: as).map (arS ps es1)) o0 ∧ backO (.d (.obj C gs) :: as) es1 o0 = o) : EvW K (tMethY C m (FSpecW K R) W to ta) es o W := fun F G H σ s Q q =>
  ho F G H σ s _ fun x G0 H0 s0 g0 r0 => by
    have r0' := r0
    cases r0 with
    | obj h rf =>
      refine ⟨_, _, _, rfl, s0.g _ _ h, rf.lookup_none hm, ha F G0 H0 σ s0 _ fun vs G1 H1 s1 g1 r1 => ?_⟩
      obtain ⟨ps, hps⟩ := s1.names
      obtain ⟨o1, hR1, e⟩ := hR ps
      subst e
      have r2 : ArOk K G1 σ (_ :: vs) (.d (.obj C gs) :: as) := ⟨r0'.mono g1, r1⟩
      exact ⟨_, G1, _, o1, s1.lend r2 nd hps, hR1, s1.backW r2 nd (q.up (g0.trans g1))⟩
/-- what is one's own is lent -/
theorem evw_lend (b : Brw2 es es') (h : EvW K te es' o W) (ho : (∃ x, o = .ret (fun _ => .d x) es' ∧ Flat x) ∨ ∃ c fs', o = .exc c fs') : EvW K te es (match o with
  | .ret rs _ => .ret rs es
  | .exc c _ => .exc c es) W := fun F G H σ s Q q => by
  refine h F _ H σ (s.borrow2 b) Q ?_
  rcases ho with ⟨x, rfl, hx⟩ | ⟨c, fs', rfl⟩
  · exact fun qs v G1 H1 s1 g1 => q qs v G H1 ((s.grown (same_all s s1.tl.f s1.tl.g g1)).cons (hx K _ _ v s1.hd)) (Same.refl _)
  · exact fun G1 H1 s1 g1 => q G H1 (s.grown (same_all s s1.f s1.g g1)) (Same.refl _)
theorem evw_lendR {x : Dt} (b : Brw2 es es') (h : EvW K te es' (.ret (fun _ => .d x) es') W) (hx : Flat x) : EvW K te es (.ret (fun _ => .d x) es) W := evw_lend b h (.inl ⟨x, rfl, hx⟩)
theorem evw_lendX (b : Brw2 es es') (h : EvW K te es' (.exc c fs) W) : EvW K te es (.exc c es) W := evw_lend b h (.inr ⟨c, fs, rfl⟩)
theorem evw_lendT {x : Dt} (b : Brw2 es es') (h : EvW K te es' (.ret (fun _ => .d x) es') W) (hd : LT x) : EvW K te es (.ret (fun _ => .d x) es) W := fun F G H σ s Q q => by
  have key := ev_lend2 (te := fun σ' H' Q' => σ' = σ ∧ H' = H → te σ H Q') b (fun F1 G1 H1 σ1 s1 Q1 q1 => fun ⟨e1, e2⟩ => ?_) hd F G H σ s Q (fun v G' H' s' g r => q [] v G' H' (s'.cons r) g)
  · exact key ⟨rfl, rfl⟩
  · subst e1 e2
    exact h F1 G1 H1 σ1 s1 Q1 fun qs v G2 H2 s2 g2 => q1 v G2 H2 s2.tl g2 s2.hd
theorem evs_ofW {rs : List Addr → Sl} (h : EvW K te es (.ret rs es') W) : EvS K te es es' rs := fun F G H σ s Q q => h F G H σ s Q q
/-! statements -/
variable {ρ : Type} {t tz : TS} {m : Option ρ} {oc : ρ → Res}
theorem sm_rx {α : Type} {m1 : Option (Rx α)} {k : α → Option ρ} {e : Nat → Option ρ} (h1 : ∀ r, m1 = some (.ok r) → SM K t es (k r) oc) (h2 : ∀ c, m1 = some (.no c) → SM K t es (e c) oc) : SM K t es (m1.bind (Rx.thn k e)) oc := fun r q => by
  cases hm : m1 with
  | none => rw [hm] at q; cases q
  | some x =>
    rw [hm] at q
    cases x with
    | ok v => exact h1 v hm r q
    | no c => exact h2 c hm r q
theorem sm_dropW (h : EvW K te es (.ret (fun _ => .d d) es1) W) (k : SM K tz es1 m oc) : SM K (tSeq (tDrop te) tz) es m oc := fun r e F G H σ D s q =>
  h F G H σ s _ fun qs v G1 H1 s1 g1 => k r e F G1 H1 _ D s1.tl (q.up g1)
theorem sm_dropX {r : ρ} (h : EvW K te es (.exc c es1) W) (w : Wk es1 fs) (e : oc r = .xr W c fs) : SM K (tSeq (tDrop te) tz) es (some r) oc := fun r' e' F G H σ D s q => by
  cases e'
  rw [e] at q
  exact h F G H σ s _ fun G1 H1 s1 g1 => q G1 H1 σ (s1.wk w) g1
theorem sm_asgXW {g : TG} {r : ρ} (h : EvW K te es (.exc c es1) W) (w : Wk es1 fs) (e : oc r = .xr W c fs) : SM K (tSeq (tAsg te g) tz) es (some r) oc := fun r' e' F G H σ D s q => by
  cases e'
  rw [e] at q
  exact h F G H σ s _ fun G1 H1 s1 g1 => q G1 H1 σ (s1.wk w) g1
theorem sm_iteX {c k : Nat} {r : ρ} (h : c = k → SM K t es (some r) oc) : SM K t es (if c = k then some r else none) oc := by
  by_cases q : c = k
  · rw [if_pos q]; exact h q
  · rw [if_neg q]; exact sm_none
theorem sev_xr {W0 : WX} (h : Ev K te es d) (w : Wk es fs) : SEv K (tSeq (tRaiseV W0 c te) tz) es (.xr (fun σ v x H => W0 v x σ H) c fs) := fun F G H σ D s q =>
  h F G H σ s _ fun v G1 H1 s1 g1 r1 => q G1 H1 σ (s1.wk w) g1
end
end DL

/-! Dl43: fields and lists of objects of one's own; such objects are handed back, turn to data, are made by what may raise; tries -/
namespace DL
open PySem L2
section
variable {K : PySem.W.Frag} {F F' G H : Hp} {σ : L2.St} {es es1 es' : List Sl} {ρ : Type} {m : Option ρ} {oc : ρ → Res} {t tz : TS} {p C : Addr} {as bs fs fs2 : List (Str × PF)} {f : Str} {te ti : TE} {d : Dt} {i : Nat}
/-- the object's fields are written -/
theorem Stt.rePF {dx : Addr} {vs vs2 : List (Str × V)} (s : Stt K F' G H σ es) (hF : ∀ a u, F a = some u → F' a = some u) (hi : es[i]? = some (.prv (.obj p C fs))) (hp : H p = some (.ins C dx vs)) (k : PFsOk K F G (upd H p (.ins C dx vs2)) vs2 fs2) (nd : (PX.obj p C fs2).adr.Nodup) (ad : ∀ a ∈ (PX.obj p C fs2).adr, a ∈ (PX.obj p C fs).adr ∨ F' a ≠ none) :
    Stt K F G (upd H p (.ins C dx vs2)) σ (es.set i (.prv (.obj p C fs2))) := by
  obtain ⟨o0, ho0, nd0, e0, g0, f0, dx0, vs0, hp0, r0⟩ := s.sl i _ hi
  have fn : ∀ a, F' a = none → F a = none := fun a e => by
    cases q : F a with
    | none => rfl
    | some u => rw [hF a u q] at e; cases e
  have keep : ∀ a u, a ≠ p → H a = some u → upd H p (.ins C dx vs2) a = some u := fun a u n e => by rw [upd_ne n]; exact e
  refine ⟨fun a u e => keep a u (fun z => by rw [z, fn p f0] at e; cases e) (s.f a u (hF a u e)), fun a u e => keep a u (fun z => by rw [z, g0] at e; cases e) (s.g a u e), fun a u e => s.dj a u (hF a u e), by rw [List.length_set]; exact s.len, fun j u e => ?_, ?_⟩
  · by_cases z : i = j
    · subst z
      rw [List.getElem?_set_self (List.getElem?_eq_some_iff.mp hi).1] at e
      cases e
      exact ⟨o0, ho0, nd, e0, g0, fn p f0, dx, vs2, upd_same, k⟩
    · rw [List.getElem?_set_ne z] at e
      obtain ⟨o, ho, kk⟩ := s.sl j u e
      refine ⟨o, ho, kk.tr (Same.refl _) fun a c g f => ⟨g, fn a f, fun w hw => keep a w (fun zz => ?_) hw⟩⟩
      exact s.sp i j _ u _ _ a z hi e ho0 ho (by rw [zz]; exact List.mem_cons_self ..) c
  · refine sp_new s.sp i (fun a => F' a ≠ none) (fun j u y a ej hj h => ?_) fun j u y a n ej hj h mm => ?_
    · by_cases z : i = j
      · subst z
        rw [List.getElem?_set_self (List.getElem?_eq_some_iff.mp hi).1] at ej
        cases ej
        rcases ad a h with h | h
        · exact .inr ⟨_, _, hi, ho0, h⟩
        · exact .inl ⟨rfl, h⟩
      · rw [List.getElem?_set_ne z] at ej
        exact .inr ⟨u, y, ej, hj, h⟩
    · obtain ⟨o, ho, kk⟩ := s.sl j u ej
      rw [hj] at ho
      cases ho
      exact mm (kk.at h).2.1
theorem putF_mid {f : Str} {v v0 : V} {vs2 : List (Str × V)} : ∀ {vs1 : List (Str × V)}, (∀ y ∈ vs1, y.1 ≠ f) → putF f v (vs1 ++ (f, v0) :: vs2) = vs1 ++ (f, v) :: vs2
  | [], _ => if_pos rfl
  | (g, x) :: vs1, h => by
    show (if g = f then (g, v) :: _ else (g, x) :: putF f v (vs1 ++ (f, v0) :: vs2)) = _
    rw [if_neg (h (g, x) (List.mem_cons_self ..)), putF_mid fun y m => h y (List.mem_cons_of_mem _ m)]
    rfl
theorem PFsOk.names : ∀ {vs : List (Str × V)} {fs : List (Str × PF)}, PFsOk K F G H vs fs → (∀ y ∈ fs, y.1 ≠ f) → ∀ y ∈ vs, y.1 ≠ f
  | [], [], _, _, y, m => by cases m
  | (a, v) :: vs, (b, x) :: fs, h, n, y, m => by
    rcases List.mem_cons.mp m with rfl | m
    · exact fun e => n (b, x) (List.mem_cons_self ..) (h.1.symm.trans e)
    · exact PFsOk.names h.2.2 (fun y m => n y (List.mem_cons_of_mem _ m)) y m
  | [], _ :: _, h, _, _, _ => h.elim
  | _ :: _, [], h, _, _, _ => h.elim
theorem adr_mid {x : PF} : (PX.obj p C (as ++ (f, x) :: bs)).adr = p :: (as.flatMap (fun f => f.2.adr) ++ (x.adr ++ bs.flatMap fun f => f.2.adr)) := by
  show p :: _ = _
  rw [List.flatMap_append, List.flatMap_cons]
/-- self.f = e, the field stands -/
theorem sm_fldP {x : PF} (hi : es[i]? = some (.prv (.obj p C (as ++ (f, x) :: bs)))) (h : Ev K te es d) (hc : Cls K C) (hna : NoAttr K C f) (hf : ∀ y ∈ as, y.1 ≠ f) (hl : (as ++ (f, x) :: bs).length < 900) (he : es.set i (.prv (.obj p C (as ++ (f, .dat d) :: bs))) = es') (k : SM K tz es' m oc) :
    SM K (tSeq (sFld K (tVar i) te f) tz) es m oc := fun r e F G H σ D s q => by
  subst he
  refine h F G H σ s _ fun v G1 H1 s1 g1 r1 => ?_
  obtain ⟨o0, ho0, nd, e0, g0, f0, dx, vs, hp, rr⟩ := s1.sl i _ hi
  subst e0
  have hlen := rr.length
  refine ⟨.ref p, ho0, p, C, dx, vs, rfl, hp, hc, hna, by rw [hlen]; omega, ?_⟩
  obtain ⟨va, vx, vb, rfl, a1, a2, a3⟩ := rr.split
  rw [putF_mid (a1.names hf)]
  rw [adr_mid] at nd
  obtain ⟨np, nd2⟩ := List.nodup_cons.mp nd
  obtain ⟨na, nxb, nab⟩ := List.nodup_append.mp nd2
  obtain ⟨nx, nb, nxb2⟩ := List.nodup_append.mp nxb
  refine k r e F G1 _ σ D (s1.rePF (F := F) (fun _ _ e => e) hi hp (PFsOk.join (y := (f, .dat d)) (a1.tr (Same.refl _) fun a c g f => ⟨g, f, fun u hu => ?_⟩) r1 (a3.tr (Same.refl _) fun a c g f => ⟨g, f, fun u hu => ?_⟩)) ?_ fun a c => ?_) (q.up g1)
  · rw [upd_ne (show a ≠ p from fun z => np (z ▸ List.mem_append_left _ c))]; exact hu
  · rw [upd_ne (show a ≠ p from fun z => np (z ▸ List.mem_append_right _ (List.mem_append_right _ c)))]; exact hu
  · rw [adr_mid]
    refine List.nodup_cons.mpr ⟨fun c => np ?_, List.nodup_append.mpr ⟨na, nb, fun a ha b hb => nab a ha b (List.mem_append_right _ hb)⟩⟩
    rcases List.mem_append.mp c with c | c
    · exact List.mem_append_left _ c
    · exact List.mem_append_right _ (List.mem_append_right _ c)
  · rw [adr_mid] at c ⊢
    left
    rcases List.mem_cons.mp c with c | c
    · exact c ▸ List.mem_cons_self ..
    · rcases List.mem_append.mp c with c | c
      · exact List.mem_cons_of_mem _ (List.mem_append_left _ c)
      · exact List.mem_cons_of_mem _ (List.mem_append_right _ (List.mem_append_right _ c))
/-- self.f = e, a field is new -/
theorem sm_fldPN (hi : es[i]? = some (.prv (.obj p C fs))) (h : Ev K te es d) (hc : Cls K C) (hna : NoAttr K C f) (hf : fs.lookup f = none) (hl : fs.length < 900) (he : es.set i (.prv (.obj p C (fs ++ [(f, .dat d)]))) = es') (k : SM K tz es' m oc) :
    SM K (tSeq (sFld K (tVar i) te f) tz) es m oc := fun r e F G H σ D s q => by
  subst he
  refine h F G H σ s _ fun v G1 H1 s1 g1 r1 => ?_
  obtain ⟨o0, ho0, nd, e0, g0, f0, dx, vs, hp, rr⟩ := s1.sl i _ hi
  subst e0
  refine ⟨.ref p, ho0, p, C, dx, vs, rfl, hp, hc, hna, by rw [rr.length]; omega, ?_⟩
  rw [putF_new (rr.lookup_none hf)]
  have hA : (PX.obj p C (fs ++ [(f, .dat d)])).adr = (PX.obj p C fs).adr := by
    show p :: _ = p :: _
    rw [List.flatMap_append]
    show p :: (_ ++ []) = _
    rw [List.append_nil]
  refine k r e F G1 _ σ D (s1.rePF (F := F) (fun _ _ e => e) hi hp (PFsOk.snoc (rr.tr (Same.refl _) fun a c g f => ⟨g, f, fun u hu => ?_⟩) r1) (by rw [hA]; exact nd) fun a c => .inl (by rw [← hA]; exact c)) (q.up g1)
  rw [upd_ne (show a ≠ p from fun z => (List.nodup_cons.mp nd).1 (z ▸ c))]; exact hu
/-- self.f = a new list, the field stands -/
theorem sm_newPL {ds : List Dt} {x : PF} {es2 : Addr → List Sl} (hi : es[i]? = some (.prv (.obj p C (as ++ (f, x) :: bs)))) (h : EvL K te es ds) (hc : Cls K C) (hna : NoAttr K C f) (hf : ∀ y ∈ as, y.1 ≠ f) (hl : (as ++ (f, x) :: bs).length < 900) (he : ∀ q, es.set i (.prv (.obj p C (as ++ (f, .lst q ds) :: bs))) = es2 q) (k : ∀ q, SM K tz (es2 q) m oc) :
    SM K (tSeq (sFld K (tVar i) te f) tz) es m oc := fun r e F G H σ D s q => by
  refine h F G H σ s _ fun z ws G1 H1 s1 hz g1 r1 => ?_
  obtain ⟨o0, ho0, nd, e0, g0, f0, dx, vs, hp, rr⟩ := s1.sl i _ hi
  subst e0
  have hlen := rr.length
  refine ⟨.ref p, ho0, p, C, dx, vs, rfl, hp, hc, hna, by rw [hlen]; omega, ?_⟩
  have kx : PXOk K (upd F z (.lst ws)) G1 H1 (some (.ref p)) (.obj p C (as ++ (f, x) :: bs)) := ⟨nd, rfl, g0, f0, dx, vs, hp, rr⟩
  have zn : z ∉ (PX.obj p C (as ++ (f, x) :: bs)).adr := fun c => by
    have := (kx.at c).2.1
    rw [upd_same] at this
    cases this
  obtain ⟨va, vx, vb, rfl, a1, a2, a3⟩ := rr.split
  rw [putF_mid (a1.names hf)]
  rw [adr_mid] at nd zn
  obtain ⟨np, nd2⟩ := List.nodup_cons.mp nd
  obtain ⟨na, nxb, nab⟩ := List.nodup_append.mp nd2
  obtain ⟨nx, nb, nxb2⟩ := List.nodup_append.mp nxb
  have hF : ∀ a u, F a = some u → upd F z (.lst ws) a = some u := fun a u e => by rw [upd_ne (ne_of_none e hz)]; exact e
  have fno : ∀ a, upd F z (.lst ws) a = none → F a = none := fun a e => by
    cases y : F a with
    | none => rfl
    | some u => rw [hF a u y] at e; cases e
  have zp : z ≠ p := fun e => zn (e ▸ List.mem_cons_self ..)
  refine k z r e F G1 _ σ D (he z ▸ s1.rePF (F := F) hF hi hp (PFsOk.join (y := (f, .lst z ds)) (a1.tr (Same.refl _) fun a c g f => ⟨g, fno a f, fun u hu => ?_⟩) ⟨rfl, ?_, hz, ws, ?_, r1⟩ (a3.tr (Same.refl _) fun a c g f => ⟨g, fno a f, fun u hu => ?_⟩)) ?_ fun a c => ?_) (q.up g1)
  · rw [upd_ne (show a ≠ p from fun y => np (y ▸ List.mem_append_left _ c))]; exact hu
  · exact s1.dj z _ upd_same
  · rw [upd_ne zp]
    exact s1.f z _ upd_same
  · rw [upd_ne (show a ≠ p from fun y => np (y ▸ List.mem_append_right _ (List.mem_append_right _ c)))]; exact hu
  · rw [adr_mid]
    show (p :: (as.flatMap (fun f => f.2.adr) ++ ([z] ++ bs.flatMap fun f => f.2.adr))).Nodup
    refine List.nodup_cons.mpr ⟨fun c => ?_, List.nodup_append.mpr ⟨na, List.nodup_append.mpr ⟨by simp, nb, fun a ha b hb => ?_⟩, fun a ha b hb => ?_⟩⟩
    · rcases List.mem_append.mp c with c | c
      · exact np (List.mem_append_left _ c)
      · rcases List.mem_append.mp c with c | c
        · exact zp (List.mem_singleton.mp c).symm
        · exact np (List.mem_append_right _ (List.mem_append_right _ c))
    · rw [List.mem_singleton.mp ha]
      exact fun y => zn (y ▸ List.mem_cons_of_mem _ (List.mem_append_right _ (List.mem_append_right _ hb)))
    · rcases List.mem_append.mp hb with c | c
      · rw [List.mem_singleton.mp c]
        exact fun y => zn (y ▸ List.mem_cons_of_mem _ (List.mem_append_left _ ha))
      · exact nab a ha b (List.mem_append_right _ c)
  · rw [adr_mid] at c ⊢
    rcases List.mem_cons.mp c with c | c
    · exact .inl (c ▸ List.mem_cons_self ..)
    · rcases List.mem_append.mp c with c | c
      · exact .inl (List.mem_cons_of_mem _ (List.mem_append_left _ c))
      · rcases List.mem_append.mp c with c | c
        · have c : a ∈ [z] := c
          right
          rw [List.mem_singleton.mp c, upd_same]
          exact fun y => by cases y
        · exact .inl (List.mem_cons_of_mem _ (List.mem_append_right _ (List.mem_append_right _ c)))
/-- self.f = a new list, a field is new -/
theorem sm_newPLN {ds : List Dt} {es2 : Addr → List Sl} (hi : es[i]? = some (.prv (.obj p C fs))) (h : EvL K te es ds) (hc : Cls K C) (hna : NoAttr K C f) (hf : fs.lookup f = none) (hl : fs.length < 900) (he : ∀ q, es.set i (.prv (.obj p C (fs ++ [(f, .lst q ds)]))) = es2 q) (k : ∀ q, SM K tz (es2 q) m oc) :
    SM K (tSeq (sFld K (tVar i) te f) tz) es m oc := fun r e F G H σ D s q => by
  refine h F G H σ s _ fun z ws G1 H1 s1 hz g1 r1 => ?_
  obtain ⟨o0, ho0, nd, e0, g0, f0, dx, vs, hp, rr⟩ := s1.sl i _ hi
  subst e0
  refine ⟨.ref p, ho0, p, C, dx, vs, rfl, hp, hc, hna, by rw [rr.length]; omega, ?_⟩
  have kx : PXOk K (upd F z (.lst ws)) G1 H1 (some (.ref p)) (.obj p C fs) := ⟨nd, rfl, g0, f0, dx, vs, hp, rr⟩
  have zn : z ∉ (PX.obj p C fs).adr := fun c => by
    have := (kx.at c).2.1
    rw [upd_same] at this
    cases this
  rw [putF_new (rr.lookup_none hf)]
  have hF : ∀ a u, F a = some u → upd F z (.lst ws) a = some u := fun a u e => by rw [upd_ne (ne_of_none e hz)]; exact e
  have fno : ∀ a, upd F z (.lst ws) a = none → F a = none := fun a e => by
    cases y : F a with
    | none => rfl
    | some u => rw [hF a u y] at e; cases e
  have zp : z ≠ p := fun e => zn (e ▸ List.mem_cons_self ..)
  have hA : (PX.obj p C (fs ++ [(f, .lst z ds)])).adr = (PX.obj p C fs).adr ++ [z] := by
    show p :: _ = p :: (_ ++ [z])
    rw [List.flatMap_append]
    rfl
  refine k z r e F G1 _ σ D (he z ▸ s1.rePF (F := F) hF hi hp (PFsOk.snoc (rr.tr (Same.refl _) fun a c g f => ⟨g, fno a f, fun u hu => ?_⟩) ⟨rfl, s1.dj z _ upd_same, hz, ws, ?_, r1⟩) ?_ fun a c => ?_) (q.up g1)
  · rw [upd_ne (show a ≠ p from fun y => (List.nodup_cons.mp nd).1 (y ▸ c))]; exact hu
  · rw [upd_ne zp]
    exact s1.f z _ upd_same
  · rw [hA]
    exact List.nodup_append.mpr ⟨nd, by simp, fun a ha b hb => by rw [List.mem_singleton.mp hb]; exact fun y => zn (y ▸ ha)⟩
  · rw [hA] at c
    rcases List.mem_append.mp c with c | c
    · exact .inl c
    · right
      rw [List.mem_singleton.mp c, upd_same]
      exact fun y => by cases y
/-- self.f[k] = v, a list -/
theorem sm_setPL {α : Type} {em : α → Dt} {xs ys : List α} {q : Addr} {x : α} {n : Int} (hi : es[i]? = some (.prv (.obj p C (as ++ (f, .lst q (xs.map em)) :: bs)))) (hc : Cls K C) (hna : NoAttr K C f) (hf : ∀ y ∈ as, y.1 ≠ f) (hv : Ev K te es (em x)) (hk : Ev K ti es (.int n)) (hm : setC xs n x = some ys)
    (he : es.set i (.prv (.obj p C (as ++ (f, .lst q (ys.map em)) :: bs))) = es') (k : SM K tz es' m oc) : SM K (tSeq (tAsg te (gSub (tFld K (tVar i) f) ti rSetL)) tz) es m oc := fun r e F G H σ D s qd => by
  subst he
  refine hv F G H σ s _ fun v G1 H1 s1 g1 r1 => ?_
  obtain ⟨o1, ho1, nd1, e1, gp1, fp1, dx1, vs1, hp1, rr1⟩ := s1.sl i _ hi
  subst e1
  obtain ⟨va, vq, vb, rfl, a1, a2, a3⟩ := rr1.split
  obtain ⟨eq1, _, _, ws1, hq1, rk1⟩ := a2
  have eq1 : vq = .ref q := eq1
  subst eq1
  refine ⟨.ref p, ho1, p, C, dx1, _, .ref q, rfl, hp1, hc, hna, a1.look hf, ?_⟩
  refine hk F G1 H1 σ s1 _ fun u G2 H2 s2 g2 r2 => ?_
  cases r2
  obtain ⟨o2, ho2, nd2, e2, gp2, fp2, dx2, vs2, hp2, rr2⟩ := s2.sl i _ hi
  obtain ⟨vc, vr, vd, rfl, b1, b2, b3⟩ := rr2.split
  obtain ⟨eq2, gq2, fq2, ws, hq2, rk2⟩ := b2
  have hl : ws.length = xs.length := by rw [rk2.length, List.length_map]
  unfold setC at hm
  cases hj : ixN xs.length n with
  | none => rw [hj] at hm; cases hm
  | some j =>
    rw [hj] at hm
    have hm' : xs.set j x = ys := Option.some.inj hm
    subst hm'
    have st := s2.wrotePF (u := .lst (ws.set j v)) (y := .lst q ((xs.set j x).map em)) hi rfl rfl fun v' h => by
      obtain ⟨ee, gg, ff, xs3, hx, rk⟩ := h
      refine ⟨ee, gg, ff, _, upd_same, ?_⟩
      rw [List.map_set]
      exact Reps.set (r1.mono g2) j rk2
    exact ⟨q, ws, n, j, rfl, rfl, hq2, by rw [hl]; exact hj, k r e F G2 _ σ D st (qd.up (g1.trans g2))⟩
end
/-! ### turned to data, handed back -/
section
variable {K : PySem.W.Frag} {F G G2 H : Hp} {σ : L2.St} {es es' fs : List Sl} {ρ : Type} {m : Option ρ} {oc : ρ → Res} {t tz : TS} {i : Nat} {x : PX}
theorem PFOk.repG {v : V} {x : PF} (h : PFOk K F G H v x) (eg : Same G G2) (k : ∀ a ∈ x.adr, ∀ u, H a = some u → G2 a = some u) : Rep K G2 v x.dt := by
  cases x with
  | dat d => exact Rep.mono eg h
  | lst q ds =>
    obtain ⟨rfl, g, f, vs, hp, r⟩ := h
    exact .lst (.inl (.inl (k q (List.mem_singleton.mpr rfl) _ hp))) (r.mono eg)
  | dic q w kvs =>
    obtain ⟨rfl, g, f, xs, hp, r⟩ := h
    exact .dic (k q (List.mem_singleton.mpr rfl) _ hp) (r.mono eg)
theorem PFsOk.repG : ∀ {vs : List (Str × V)} {fs : List (Str × PF)}, PFsOk K F G H vs fs → Same G G2 → (∀ a ∈ fs.flatMap (fun f => f.2.adr), ∀ u, H a = some u → G2 a = some u) → RepF K G2 vs (fs.map fun f => (f.1, f.2.dt))
  | [], [], _, _, _ => .nil
  | (a, v) :: vs, (b, x) :: fs, h, eg, k => by
    obtain ⟨e, h1, h2⟩ := h
    subst e
    exact .cons (h1.repG eg fun a m => k a (by rw [List.flatMap_cons]; exact List.mem_append_left _ m)) (PFsOk.repG h2 eg fun a m => k a (by rw [List.flatMap_cons]; exact List.mem_append_right _ m))
  | [], _ :: _, h, _, _ => h.elim
  | _ :: _, [], h, _, _ => h.elim
theorem Stt.frzP (s : Stt K F G H σ es) (hi : es[i]? = some (.prv x)) : ∃ G2, Same G G2 ∧ Stt K F G2 H σ (es.set i (.d x.dt)) := by
  obtain ⟨o, ho, k⟩ := s.sl i _ hi
  have k : PXOk K F G H o x := k
  refine ⟨fun a => if a ∈ x.adr then H a else G a, fun a u e => ?_, fun a u e => s.f a u e, fun a u e => ?_, fun a u e => ?_, by rw [List.length_set]; exact s.len, fun j t e => ?_, sp_setE s.sp has_d⟩
  · show (if a ∈ x.adr then H a else G a) = some u
    by_cases c : a ∈ x.adr
    · rw [(k.at c).1] at e; cases e
    · rw [if_neg c]; exact e
  · have e : (if a ∈ x.adr then H a else G a) = some u := e
    by_cases c : a ∈ x.adr
    · rw [if_pos c] at e; exact e
    · rw [if_neg c] at e; exact s.g a u e
  · show (if a ∈ x.adr then H a else G a) = none
    by_cases c : a ∈ x.adr
    · rw [(k.at c).2.1] at e; cases e
    · rw [if_neg c]; exact s.dj a u e
  · have gg : Same G fun a => if a ∈ x.adr then H a else G a := fun a u e => by
      show (if a ∈ x.adr then H a else G a) = some u
      by_cases c : a ∈ x.adr
      · rw [(k.at c).1] at e; cases e
      · rw [if_neg c]; exact e
    by_cases z : i = j
    · subst z
      rw [List.getElem?_set_self (List.getElem?_eq_some_iff.mp hi).1] at e
      cases e
      have ins : ∀ a ∈ x.adr, ∀ u, H a = some u → (fun a => if a ∈ x.adr then H a else G a) a = some u := fun a c u hu => by
        show (if a ∈ x.adr then H a else G a) = some u
        rw [if_pos c]; exact hu
      refine ⟨o, ho, ?_⟩
      obtain ⟨_, k⟩ := k
      cases x with
      | dct q w kvs =>
        obtain ⟨v, e, h⟩ := k
        exact ⟨v, e, PFOk.repG h gg ins⟩
      | obj p C fs =>
        obtain ⟨e, g, f, dx, vs, hp, r⟩ := k
        exact ⟨_, e, .obj (ins p (List.mem_cons_self ..) _ hp) (r.repG gg fun a c => ins a (List.mem_cons_of_mem _ c))⟩
    · rw [List.getElem?_set_ne z] at e
      obtain ⟨y, hy, ky⟩ := s.sl j t e
      refine ⟨y, hy, ky.tr gg fun a c g f => ⟨?_, f, fun w hw => hw⟩⟩
      show (if a ∈ x.adr then H a else G a) = none
      have nm : ¬ a ∈ x.adr := fun m => s.sp i j _ t _ _ a z hi e ho hy m c
      rw [if_neg nm]
      exact g
theorem sm_frzP (hi : es[i]? = some (.prv x)) (he : es.set i (.d x.dt) = es') (k : SM K t es' m oc) : SM K t es m oc := fun r e F G H σ D s q => by
  subst he
  obtain ⟨G2, g2, s2⟩ := s.frzP hi
  exact k r e F G2 H σ D s2 (q.up g2)
theorem Stt.lift {v : V} {u : Sl} (s : Stt K F G H σ es) (hi : es[i]? = some u) (ho : σ[i]? = some (some v)) : Stt K F G H (some v :: σ) (u :: es.set i .un) := by
  have cls : ∀ {j : Nat} {t : Sl} {y : Option V} {a : Addr}, (u :: es.set i .un)[j]? = some t → (some v :: σ)[j]? = some y → t.has y a → ∃ m, es[m]? = some t ∧ σ[m]? = some y ∧ ((j = 0 ∧ m = i) ∨ (j = m + 1 ∧ m ≠ i)) := fun {j t y a} e hy h => by
    cases j with
    | zero => cases e; cases hy; exact ⟨i, hi, ho, .inl ⟨rfl, rfl⟩⟩
    | succ j =>
      have e : (es.set i .un)[j]? = some t := by simpa using e
      by_cases z : i = j
      · subst z
        rw [List.getElem?_set_self (List.getElem?_eq_some_iff.mp hi).1] at e
        cases e
        exact h.elim
      · rw [List.getElem?_set_ne z] at e
        exact ⟨j, e, by simpa using hy, .inr ⟨rfl, fun q => z q.symm⟩⟩
  refine ⟨s.f, s.g, s.dj, by rw [List.length_cons, List.length_cons, List.length_set, s.len], fun j t e => ?_, fun j l t w y z a n ej el hj hl h1 h2 => ?_⟩
  · cases j with
    | zero =>
      cases e
      obtain ⟨o, h, k⟩ := s.sl i _ hi
      rw [ho] at h
      cases h
      exact ⟨_, rfl, k⟩
    | succ j =>
      have e : (es.set i .un)[j]? = some t := by simpa using e
      by_cases z : i = j
      · subst z
        rw [List.getElem?_set_self (List.getElem?_eq_some_iff.mp hi).1] at e
        cases e
        exact ⟨_, by simpa using ho, trivial⟩
      · rw [List.getElem?_set_ne z] at e
        obtain ⟨o, h, k⟩ := s.sl j t e
        exact ⟨o, by simpa using h, k⟩
  · obtain ⟨m1, e1, v1, c1⟩ := cls ej hj h1
    obtain ⟨m2, e2, v2, c2⟩ := cls el hl h2
    exact s.sp m1 m2 t w y z a (by omega) e1 e2 v1 v2 h1 h2
theorem Stt.wkT {v : Option V} {u : Sl} (s : Stt K F G H (v :: σ) (u :: es)) (w : Wk es fs) : Stt K F G H (v :: σ) (u :: fs) := s.wk (show Wk (u :: es) (u :: fs) from ⟨.inr rfl, w⟩)
/-- return x, x one's own -/
theorem sev_rtX {p C : Addr} {gs : List (Str × PF)} (hi : es[i]? = some (.prv (.obj p C gs))) (w : Wk (es.set i .un) fs) : SEv K (tSeq (tRet (tVar i)) tz) es (.rs (.prv (.obj p C gs)) fs) := fun F G H σ D s q => by
  obtain ⟨o, ho, k⟩ := s.sl i _ hi
  have e := k.2.1
  subst e
  exact ⟨_, ho, q _ G H σ ((s.lift hi ho).wkT w) (Same.refl _)⟩
end
/-! ### __init__ that may raise -/
inductive OutI where
  | ret (fs : List Addr → List (Str × PF)) | exc (c : Addr)
def FSpecWI (K : PySem.W.Frag) (C : Addr) (R : List Dt → OutI → Prop) : Sp := fun vs H Q E => ∃ F G p ds o, Stt K F G H (vs.map some) (.obo (some p) C [] :: ds.map .d) ∧ R ds o ∧ match o with
  | .ret fs => ∀ (qs : List Addr) v G' H', Stt K F G' H' (vs.map some) (.prv (.obj p C (fs qs)) :: ds.map .d) → Same G G' → Rep K G' v .non → Q v H'
  | .exc c => ∀ G' H', Same F H' → Same G' H' → (∀ a o, F a = some o → G' a = none) → Same G G' → E (.ref c) none H'
def EndWI (K : PySem.W.Frag) (E : XK) (p C : Addr) : OutI → Res → Prop
  | .ret fs, ro => ∀ F G D, (∀ qs es, Good K F G D (.nx (.prv (.obj p C (fs qs)) :: es))) → Good K F G D ro
  | .exc c, ro => ∃ es, ro = .xr (fun _ => E) c es
section
open PyProof.Rows
variable {P : Program} {w : World} {K : PySem.W.Frag} {mg : Str → Option Value} {base : Heap}
theorem fn_WI {x qual : Str} {st : Stmt} {f : Addr} {fd : FuncData} {N ps : List Str} {k : Nat} {C : Addr} {R : List Dt → OutI → Prop} (F : Fun K x qual st f fd) (S : FnScope N ps (defScope st)) (hl : ∀ ds o, R ds o → ds.length + 1 = ps.length)
    (body : ∀ (cdv : Value) (A : Around) (outer : List Env) (s : Shared) (H : Hp) (E : XK), Room k (A.deeper (PyProof.Rows.envOfC qual (defScope st) s.heap.objs.size f cdv)) →
      ∃ t, PSs (cxOf (L2.CX P w) P w K mg base N qual (defScope st) f cdv A outer s H E) (defBody st) t ∧ ∀ p ds o, R ds o → ∃ ro, SEv K t (.obo (some p) C [] :: ds.map .d ++ List.replicate (N.length - ps.length) .un) ro ∧ EndWI K E p C o ro) :
    FnOk P w K mg base (L2.CX P w) (k + 1) f fd ps (FSpecWI K C R) := by
  refine F.okX S (fun vs H Q E h => ?_) (fun cdv A outer s H vs Q E hr h => ?_)
  · obtain ⟨F, G, p, ds, o, s, hR, _⟩ := h
    have := s.len
    rw [List.length_map, List.length_cons, List.length_map, hl ds o hR] at this
    exact this
  · obtain ⟨t, ht, hb⟩ := body cdv A outer s H E hr
    refine ⟨t, ht, ?_⟩
    obtain ⟨F1, G, p, ds, o, st1, hR, q⟩ := h
    obtain ⟨ro, hs, he⟩ := hb p ds o hR
    have s0 := stt_start (N := N) (n := N.length - ps.length) st1 (by rw [List.length_cons, List.length_map, hl ds o hR])
    cases o with
    | ret fs =>
      refine hs F1 G H _ _ s0 (he F1 G _ fun qs es G' H' σ' s' g => ?_)
      cases vs with
      | nil =>
        have := st1.len
        simp at this
      | cons v0 vs =>
        obtain ⟨o0, ho0, p0, dx0, fv0, e0, g0, f0, h0, r0, a0⟩ := st1.sl 0 _ rfl
        cases ho0
        cases e0
        obtain rfl := a0 p rfl
        obtain ⟨o1, ho1, k1⟩ := s'.sl 0 _ rfl
        have k1 : PXOk K F1 G' H' o1 (.obj p C (fs qs)) := k1
        have e1 := k1.val
        subst e1
        have rs : Reps K G vs ds := data_of (vs := vs) (ds := ds) (K := K) (F := F1) (G := G) (H := H) (by have := st1.len; simpa using this) fun i t e => st1.sl (i + 1) t e
        exact q qs .non G' H' (prv_data s'.f s'.g s'.dj k1 (rs.mono g)) g .non
    | exc c =>
      obtain ⟨es, rfl⟩ := he
      exact hs F1 G H _ _ s0 fun G' H' σ' s' g => q G' H' s'.f s'.g s'.dj g
/-- where no exception is awaited -/
theorem fn_noWI {f : Addr} {fd : FuncData} {ps : List Str} {k : Nat} {C : Addr} {R : List Dt → OutI → Prop} {P2 : List Dt → (List Addr → List (Str × PF)) → Prop} (F1 : FnOk P w K mg base (L2.CX P w) k f fd ps (FSpecWI K C R)) (h : ∀ ds fs, P2 ds fs → R ds (.ret fs)) : FnOk P w K mg base CX0 k f fd ps (FSpecQ K (RQ C P2)) := by
  have key : ∀ {vs H Q E}, FSpecQ K (RQ C P2) vs H Q E → FSpecWI K C R vs H Q (fun _ _ _ => False) := fun {vs H Q E} ⟨F, G, ss, d, ss2, s, ⟨p, ds, fs, e1, e2, e3, hP⟩, q⟩ => by
    subst e1 e2 e3
    exact ⟨F, G, p, ds, .ret fs, s, h ds fs hP, fun qs v G' H' s' g r => q qs v G' H' s' g r⟩
  refine ⟨fun vs H Q E hq => F1.len vs H Q _ (key hq), fun A outer s H args us vs Q E hr he hb hv hs => codeAny_mono (F1.run A outer s H args us vs Q _ hr he hb hv (key hs)) fun r s' q => ?_⟩
  cases r with
  | ok fl => cases fl <;> exact q
  | error e =>
    obtain ⟨a, B, H', cls, d, _, _, _, _, _, _, _, hE⟩ := q
    exact hE.elim
end
section
variable {K : PySem.W.Frag} {F G H : Hp} {σ : L2.St} {es es' : List Sl} {te : TE} {ta : TA} {ds : List Dt} {d : Dt} {C : Addr} {W : L2.St → XK}
theorem prv_virt {v : V} {x : PX} (kx : PXOk K F G H (some v) x) (s1 : Stt K (withA F H x.adr) G H σ es) : Stt K F G H (some v :: σ) (.prv x :: es) := by
  have up : ∀ a u, F a = some u → withA F H x.adr a = some u := fun a u e => by
    unfold withA
    rw [if_neg fun m => by rw [(kx.at m).2.1] at e; cases e]
    exact e
  have dn : ∀ a, withA F H x.adr a = none → a ∉ x.adr ∧ F a = none := fun a e => by
    unfold withA at e
    by_cases c : a ∈ x.adr
    · rw [if_pos c] at e
      obtain ⟨_, _, u, hu⟩ := kx.at c
      rw [hu] at e
      cases e
    · rw [if_neg c] at e
      exact ⟨c, e⟩
  have hno : ∀ (j : Nat) (u : Sl) (y : Option V) (a : Addr), es[j]? = some u → σ[j]? = some y → u.has y a → a ∉ x.adr := fun j u y a ej hj h => by
    obtain ⟨o, ho, kk⟩ := s1.sl j u ej
    rw [hj] at ho
    cases ho
    exact (dn a (kk.at h).2.1).1
  refine ⟨fun a u e => s1.f a u (up a u e), s1.g, fun a u e => s1.dj a u (up a u e), by simpa using s1.len, fun j t e => ?_, fun i j t u x2 y a n ei ej hi hj h1 h2 => ?_⟩
  · cases j with
    | zero => cases e; exact ⟨_, rfl, kx⟩
    | succ j =>
      obtain ⟨o, ho, kk⟩ := s1.sl j t (by simpa using e)
      exact ⟨o, by simpa using ho, kk.tr (Same.refl _) fun a m g f => ⟨g, (dn a f).2, fun w hw => hw⟩⟩
  · cases i with
    | zero =>
      cases j with
      | zero => exact n rfl
      | succ j => cases ei; exact hno j u y a (by simpa using ej) (by simpa using hj) h2 h1
    | succ i =>
      cases j with
      | zero => cases ej; exact hno i t x2 a (by simpa using ei) (by simpa using hi) h1 h2
      | succ j => exact s1.sp i j t u x2 y a (by omega) (by simpa using ei) (by simpa using ej) (by simpa using hi) (by simpa using hj) h1 h2
/-- C(..) -/
theorem evw_make {R : List Dt → OutI → Prop} {o : OutI} (ha : EvA K ta es ds) (hR : R ds o) : EvW K (tMakeS C (FSpecWI K C R) W ta) es (match o with
  | .ret fs => .ret (fun qs => .prv (.obj (qs.getD 0 0) C (fs qs.tail))) es
  | .exc c => .exc c es) W := fun F G H σ s Q q =>
  ha F G H σ s _ fun vs G1 H1 s1 g1 r1 x dx hx hdx ne => by
    have hx1 : upd H1 dx (.own x) x = none := by
      rw [upd_ne (fun z => ne z.symm)]
      exact hx
    have s2 : Stt K F G1 (upd (upd H1 dx (.own x)) x (.ins C dx [])) σ es := (s1.lay hdx).lay hx1
    have gx : G1 x = none := s1.gnone hx
    have h2 : ∀ a u, H1 a = some u → (upd (upd H1 dx (.own x)) x (.ins C dx [])) a = some u := fun a u e => by
      rw [upd_ne (ne_of_none e hx), upd_ne (ne_of_none e hdx)]
      exact e
    have base := stt_data (K := K) (F := remA G1 (upd (upd H1 dx (.own x)) x (.ins C dx [])) [x]) (fun a o e => (remA_some e).2.1) s2.g (fun a o e => (remA_some e).2.2) r1
    have inF : ∀ a u, H1 a = some u → G1 a = none → remA G1 (upd (upd H1 dx (.own x)) x (.ins C dx [])) [x] a = some u := fun a u e g => by
      have na : a ∉ [x] := fun m => by rw [List.mem_singleton.mp m, hx] at e; cases e
      rw [remA_of na g]
      exact h2 a u e
    refine ⟨remA G1 (upd (upd H1 dx (.own x)) x (.ins C dx [])) [x], G1, x, ds, o, ⟨base.f, base.g, base.dj, by rw [List.map_cons, List.length_cons, List.length_cons, base.len], fun i t e => ?_, sp_one⟩, hR, ?_⟩
    · cases i with
      | zero =>
        cases e
        exact ⟨_, rfl, x, dx, [], rfl, gx, remA_in (List.mem_singleton.mpr rfl), upd_same, .nil, fun q e => (Option.some.inj e).symm⟩
      | succ i => exact base.sl i t e
    · cases o with
      | exc c =>
        intro G2 H2 a1 a2 a3 a4
        exact q G2 H2 (s1.after (fun a u e => a1 a u (inF a u (rem_some e).1 (rem_some e).2)) a2 (fun a u e => a3 a u (inF a u (rem_some e).1 (rem_some e).2)) a4) (g1.trans a4)
      | ret fs =>
        intro qs v G2 H2 s3 g3 r3
        obtain ⟨o, ho, k⟩ := s3.sl 0 _ rfl
        cases ho
        have k : PXOk K (remA G1 (upd (upd H1 dx (.own x)) x (.ins C dx [])) [x]) G2 H2 (some (.ref x)) (.obj x C (fs qs)) := k
        refine ⟨by cases r3; rfl, ?_⟩
        have old : ∀ a u, H1 a = some u → G1 a = none → H2 a = some u ∧ G2 a = none := fun a u e g => ⟨s3.f _ _ (inF a u e g), s3.dj _ _ (inF a u e g)⟩
        have fresh : ∀ a ∈ (PX.obj x C (fs qs)).adr, H1 a = none := fun a m => by
          obtain ⟨g, f, u, hu⟩ := k.at m
          cases z : H1 a with
          | none => rfl
          | some w =>
            cases y : G1 a with
            | some o => rw [g3 a o y] at g; cases g
            | none => rw [inF a w z y] at f; cases f
        have ff : ∀ a ∈ (PX.obj x C (fs qs)).adr, F a = none := fun a m => s1.fnone (fresh a m)
        have kF : PXOk K F G2 H2 (some (.ref x)) (.obj x C (fs qs)) := k.tr (Same.refl _) fun a m g _ => ⟨g, ff a m, fun w hw => hw⟩
        refine q (x :: qs) (.ref x) G2 H2 (prv_virt (x := .obj x C (fs qs)) kF ⟨fun a o e => ?_, s3.g, fun a o e => ?_, s1.len, fun i t e => ?_, s1.sp⟩) (g1.trans g3)
        · unfold withA at e
          by_cases c : a ∈ (PX.obj x C (fs qs)).adr
          · rw [if_pos c] at e; exact e
          · rw [if_neg c] at e
            exact (old a o (s1.f a o e) (s1.dj a o e)).1
        · unfold withA at e
          by_cases c : a ∈ (PX.obj x C (fs qs)).adr
          · exact (kF.at c).1
          · rw [if_neg c] at e
            exact (old a o (s1.f a o e) (s1.dj a o e)).2
        · obtain ⟨o, ho, kk⟩ := s1.sl i t e
          refine ⟨o, ho, kk.tr g3 fun a m g f => ?_⟩
          obtain ⟨_, _, u, hu⟩ := kk.at m
          have na : a ∉ (PX.obj x C (fs qs)).adr := fun c => by rw [fresh a c] at hu; cases hu
          refine ⟨(old a u hu g).2, ?_, fun w hw => by rw [hu] at hw; cases hw; exact (old a u hu g).1⟩
          unfold withA
          rw [if_neg na]
          exact f
end
/-! ### tries -/
inductive TryO (S R X : Type) where
  | nx (s : S) | rt (r : R) | no (x : X)
def TryO.fin {S R X : Type} (hm : X → Option (Fl S R)) : TryO S R X → Option (Fl S R)
  | .nx s => some (.nx s)
  | .rt r => some (.rt r)
  | .no x => hm x
def tryRes {S R X : Type} (W : L2.St → XK) (env : S → List Sl) (ed : R → Dt) (ee : R → List Sl) (c : Addr) (ex : X → List Sl) : TryO S R X → Res
  | .nx s => .nx (env s)
  | .rt r => .rt (ed r) (ee r)
  | .no x => .xr W c (ex x)
/-- a suite that holds a plain exception -/
def SMK {ρ : Type} (K : PySem.W.Frag) (a : Addr) (i : Nat) (t : TS) (es : List Sl) (m : Option ρ) (oc : ρ → Res) : Prop := ∀ r, m = some r → ∀ F G H σ D, Stt K F G H σ es → σ[i]? = some (some (.ref a)) → Good K F G D (oc r) → t D σ H
def EvK (K : PySem.W.Frag) (a : Addr) (i : Nat) (te : TE) (es : List Sl) (d : Dt) : Prop := ∀ F G H σ, Stt K F G H σ es → σ[i]? = some (some (.ref a)) → ∀ Q : VK, (∀ v G' H', Stt K F G' H' σ es → Same G G' → Rep K G' v d → Q v H') → te σ H Q
def EvKT (K : PySem.W.Frag) (a : Addr) (i : Nat) (tt : TT) (es : List Sl) (b : Bool) : Prop := ∀ F G H σ, Stt K F G H σ es → σ[i]? = some (some (.ref a)) → ∀ Q : Bool → Hp → Prop, (∀ G' H', Stt K F G' H' σ es → Same G G' → Q b H') → tt σ H Q
section
variable {K : PySem.W.Frag} {a c C1 : Addr} {i : Nat} {es fs : List Sl} {te ta tb : TE} {tt tu : TT} {t u tz : TS} {x y : Bool} {d : Dt} {ρ : Type} {m p q : Option ρ} {oc : ρ → Res}
theorem evk_of (h : Ev K te es d) : EvK K a i te es d := fun F G H σ s _ Q q => h F G H σ s Q q
theorem evk_is {v : V} {cv : Value} {b : Bool} (hv : ∀ u, RelV v u → u = cv) (e : PySem.W.kitOne K (.ref c) cv = some b) : EvK K a i (tCB (rIsZ K c a (.ref c) none) (tCons (tVar i) (tCons (tC v) tNil))) es (.bl b) := fun F G H σ s h Q q =>
  ⟨_, h, v, cv, b, rfl, rfl, rfl, hv, e, q _ G H s (Same.refl _) (.bl b)⟩
theorem evk_not (h1 : EvK K a i ta es (.bl x)) : EvK K a i (tNotV ta) es (.bl (!x)) := fun F G H σ s h Q q => h1 F G H σ s h _ fun v G1 H1 s1 g1 r1 => by
  cases r1
  exact ⟨x, rfl, q _ G1 H1 s1 g1 (.bl _)⟩
theorem evk_and (h1 : EvK K a i ta es (.bl x)) (h2 : EvK K a i tb es (.bl y)) : EvK K a i (tAndV ta tb) es (.bl (x && y)) := fun F G H σ s h Q q => h1 F G H σ s h _ fun v G1 H1 s1 g1 r1 => by
  cases r1
  refine ⟨x, rfl, ?_⟩
  cases x with
  | true => exact h2 F G1 H1 σ s1 h Q fun v G2 H2 s2 g2 r2 => q v G2 H2 s2 (g1.trans g2) r2
  | false => exact q _ G1 H1 s1 g1 (.bl false)
def EvKA (K : PySem.W.Frag) (a : Addr) (i : Nat) (ta : TA) (es : List Sl) (ds : List Dt) : Prop := ∀ F G H σ, Stt K F G H σ es → σ[i]? = some (some (.ref a)) → ∀ Q : List V → Hp → Prop, (∀ vs G' H', Stt K F G' H' σ es → Same G G' → Reps K G' vs ds → Q vs H') → ta σ H Q
theorem evka_nil : EvKA K a i tNil es [] := fun F G H σ s _ Q q => q [] G H s (Same.refl _) .nil
theorem evka_cons {tr : TA} {ds : List Dt} (h : EvK K a i te es d) (r : EvKA K a i tr es ds) : EvKA K a i (tCons te tr) es (d :: ds) := fun F G H σ s h0 Q q =>
  h F G H σ s h0 _ fun v G1 H1 s1 g1 r1 => r F G1 H1 σ s1 h0 _ fun vs G2 H2 s2 g2 r2 => q (v :: vs) G2 H2 s2 (g1.trans g2) (.cons (r1.mono g2) r2)
theorem evk_tup {t : TA} {ds : List Dt} (h : EvKA K a i t es ds) (hl : ds.length ≤ 100000) : EvK K a i (tTup t) es (.tup ds) := fun F G H σ s h0 Q q => by
  have key := ev_tup (K := K) (es := es) (t := fun σ' H' Q' => σ' = σ ∧ H' = H → t σ H Q') (ds := ds) (fun F1 G1 H1 σ1 s1 Q1 q1 => fun ⟨e1, e2⟩ => by subst e1 e2; exact h F1 G1 H1 σ1 s1 h0 Q1 q1) hl F G H σ s Q q
  exact key ⟨rfl, rfl⟩
theorem ekt_B (h1 : EvK K a i ta es (.bl x)) : EvKT K a i (tB ta) es x := fun F G H σ s h Q q => h1 F G H σ s h _ fun v G1 H1 s1 g1 r1 => by
  cases r1
  exact ⟨x, rfl, q G1 H1 s1 g1⟩
theorem ekt_not (h1 : EvKT K a i tt es x) : EvKT K a i (tNot tt) es (!x) := fun F G H σ s h Q q => h1 F G H σ s h _ fun G1 H1 s1 g1 => q G1 H1 s1 g1
theorem ekt_or (h1 : EvKT K a i tt es x) (h2 : EvKT K a i tu es y) : EvKT K a i (tOr tt tu) es (x || y) := fun F G H σ s h Q q => h1 F G H σ s h _ fun G1 H1 s1 g1 => by
  cases x with
  | true => exact q G1 H1 s1 g1
  | false => exact h2 F G1 H1 σ s1 h Q fun G2 H2 s2 g2 => q G2 H2 s2 (g1.trans g2)
theorem smk_of (h : SM K t es m oc) : SMK K a i t es m oc := fun r e F G H σ D s _ q => h r e F G H σ D s q
theorem smk_one (h : SMK K a i (tSeq t tNext) es m oc) : SMK K a i t es m oc := h
theorem smk_as {v : TS} (h : SMK K a i (tSeq t (tSeq u v)) es m oc) : SMK K a i (tSeq (tSeq t u) v) es m oc := h
theorem smk_ret {r : ρ} (h : EvK K a i te es d) (w : Wk es fs) (e : oc r = .rt d fs) : SMK K a i (tSeq (tRet te) tz) es (some r) oc := fun r' e' F G H σ D s hh q => by
  cases e'
  rw [e] at q
  exact h F G H σ s hh _ fun v G1 H1 s1 g1 r1 => q v G1 H1 σ (s1.wk w) g1 r1
theorem smk_ifF (h : EvKT K a i tt es false) (h2 : SMK K a i (tSeq u tz) es m oc) : SMK K a i (tSeq (tIfS tt t u) tz) es m oc := fun r e F G H σ D s hh k =>
  h F G H σ s hh _ fun G1 H1 s1 g1 => h2 r e F G1 H1 σ D s1 hh (k.up g1)
theorem smk_nil (h : SMK K a i tz es m oc) : SMK K a i (tSeq tNext tz) es m oc := h
end
section
variable {K : PySem.W.Frag} {c C1 : Addr} {es : List Sl} {S R X ρ : Type}
theorem sm_tryW {tb : WX → TS} {env : S → List Sl} {ed : R → Dt} {ee : R → List Sl} {ex : X → List Sl} {m : Option (TryO S R X)} {hm : X → Option (Fl S R)} {ts : Addr → Value → Option Addr → TS} {i : Nat} (he : PySem.W.exmOne K (.ref c) (.ref C1) = some true) (hu : ∀ x, (ex x)[i]? = some .un) (he2 : ∀ s, (env s)[i]? = some .un)
    (hb : ∀ W, SM K (tb W) es m (tryRes (WE W) env ed ee c ex)) (hh : ∀ a x, SMK K a i (ts a (.ref c) none) (ex x) (hm x) (loopRes env ed ee)) :
    SM K (fun D σ H => tb (wN K D [(.ref C1, i, ts)]) D σ H) es (m.bind (TryO.fin hm)) (loopRes env ed ee) := fun r e F G H σ D s q => by
  cases hmm : m with
  | none => rw [hmm] at e; cases e
  | some o =>
    rw [hmm] at e
    refine hb (wN K D [(.ref C1, i, ts)]) o hmm F G H σ D s ?_
    cases o with
    | nx v =>
      cases e
      exact q
    | rt v =>
      cases e
      exact q
    | no x =>
      have e : hm x = some r := e
      intro G' H' σ' s1 g1
      refine ⟨true, he, fun _ a ha => ?_, fun z => by cases z⟩
      have hlt : i < (ex x).length := (List.getElem?_eq_some_iff.mp (hu x)).1
      have es' : (ex x).set i .un = ex x := List.ext_getElem? fun k => by
        by_cases q : i = k
        · subst q
          rw [List.getElem?_set_self hlt, hu x]
        · rw [List.getElem?_set_ne q]
      have s2 : Stt K F G' H' (σ'.set i (some (.ref a))) (ex x) := by
        have := s1.undo i (some (.ref a))
        rw [es'] at this
        exact this
      have hv : (σ'.set i (some (.ref a)))[i]? = some (some (V.ref a)) := List.getElem?_set_self (by rw [s1.len]; exact hlt)
      refine hh a x r e F G' H' _ _ s2 hv ?_
      cases r with
      | nx v =>
        intro G2 H2 σ2 s3 g2
        refine q G2 H2 (σ2.set i none) ?_ (g1.trans g2)
        have wi := he2 v
        have := s3.undo i none
        have e3 : (env v).set i .un = env v := List.ext_getElem? fun k => by
          by_cases q : i = k
          · subst q
            rw [List.getElem?_set_self (List.getElem?_eq_some_iff.mp wi).1, wi]
          · rw [List.getElem?_set_ne q]
        rw [e3] at this
        exact this
      | bk v =>
        intro G2 H2 σ2 s3 g2
        refine q G2 H2 (σ2.set i none) ?_ (g1.trans g2)
        have wi := he2 v
        have := s3.undo i none
        have e3 : (env v).set i .un = env v := List.ext_getElem? fun k => by
          by_cases q : i = k
          · subst q
            rw [List.getElem?_set_self (List.getElem?_eq_some_iff.mp wi).1, wi]
          · rw [List.getElem?_set_ne q]
        rw [e3] at this
        exact this
      | rt v =>
        intro w G2 H2 σ2 s3 g2 r2
        exact q w G2 H2 σ2 s3 (g1.trans g2) r2
end
section
variable {K : PySem.W.Frag} {F G H : Hp} {σ : L2.St} {es es1 es' fs : List Sl} {ρ : Type} {m : Option ρ} {oc : ρ → Res} {t tz : TS} {i j : Nat} {c C C1 : Addr} {ta : TA} {as : List Ar} {rs : List Addr → Sl} {E : XK}
/-- o.m(..), o data, what comes back one's own -/
theorem evs_methD {R : List Sl → (List Addr → Sl) → List Sl → Prop} {to : TE} {m : Str} {gs : List (Str × Dt)} (ho : Ev K to es (.obj C gs)) (hm : gs.lookup m = none) (ha : EvMG K ta es es1 as) (nd : nodupB (ixs (.d (.obj C gs) :: as)) = true) (hR : ∀ ps, ∃ ss', R ((Ar.d (.obj C gs) :: as).map (arS ps es1)) rs ss' ∧ putS (.d (.obj C gs) :: as) ss' es1 = es') : EvS K (tMeth C m (FSpecG K R) [] E to ta) es es' rs := fun F G H σ s Q q =>
  ho F G H σ s _ fun x G0 H0 s0 g0 r0 => by
    have r0' := r0
    cases r0 with
    | obj h rf =>
      refine ⟨_, _, _, rfl, s0.g _ _ h, rf.lookup_none hm, ha F G0 H0 σ s0 _ fun vs G1 H1 s1 g1 r1 => ?_⟩
      rw [List.append_nil]
      obtain ⟨ps, hps⟩ := s1.names
      obtain ⟨ss1, hR1, e⟩ := hR ps
      subst e
      have r2 : ArOk K G1 σ (_ :: vs) (.d (.obj C gs) :: as) := ⟨r0'.mono g1, r1⟩
      exact ⟨_, G1, _, rs, ss1, s1.lend r2 nd hps, hR1, fun qs v G2 H2 s2 g2 => q qs v G2 H2 (s1.back r2 nd s2 g2) (g0.trans (g1.trans g2))⟩
/-- try: x = C(..); it comes to its end -/
theorem sm_tryMk {te : (L2.St → XK) → TE} {l : List Hnd} {es2 : List Addr → List Sl} (h : ∀ W, EvW K (te W) es (.ret rs es1) W) (he : ∀ qs, es1.set j (rs qs) = es2 qs) (k : ∀ qs, SM K tz (es2 qs) m oc) : SM K (tSeq (fun D σ H => (fun W => tSeq (tAsg (te (WE W)) (gName j)) tNext) (wN K D l) D σ H) tz) es m oc := fun r e F G H σ D s q =>
  h _ F G H σ s _ fun qs v G1 H1 s1 g1 => k qs r e F G1 H1 _ D (he qs ▸ s1.settle) (q.up g1)
theorem sm_tryMx {te : (L2.St → XK) → TE} {ts : Addr → Value → Option Addr → TS} (h : ∀ W, EvW K (te W) es (.exc c es1) W) (he : PySem.W.exmOne K (.ref c) (.ref C1) = some true) (hu : es1[i]? = some .un) (hh : ∀ a, SMK K a i (ts a (.ref c) none) es1 m oc) (ho : ∀ r, m = some r → ∃ d fs, oc r = .rt d fs) : SM K (tSeq (fun D σ H => (fun W => tSeq (tAsg (te (WE W)) (gName j)) tNext) (wN K D [(.ref C1, i, ts)]) D σ H) tz) es m oc := fun r e F G H σ D s q =>
  h _ F G H σ s _ fun G1 H1 s1 g1 => ⟨true, he, fun _ a ha => by
    have hlt : i < es1.length := (List.getElem?_eq_some_iff.mp hu).1
    have es' : es1.set i .un = es1 := List.ext_getElem? fun k => by
      by_cases q : i = k
      · subst q
        rw [List.getElem?_set_self hlt, hu]
      · rw [List.getElem?_set_ne q]
    have s2 : Stt K F G1 H1 (σ.set i (some (.ref a))) es1 := by
      have := s1.undo i (some (.ref a))
      rw [es'] at this
      exact this
    have hv : (σ.set i (some (.ref a)))[i]? = some (some (V.ref a)) := List.getElem?_set_self (by rw [s1.len]; exact hlt)
    refine hh a r e F G1 H1 _ _ s2 hv ?_
    obtain ⟨d, fs, eo⟩ := ho r e
    rw [eo] at q ⊢
    exact fun v G2 H2 σ2 s3 g2 r2 => q v G2 H2 σ2 s3 (g1.trans g2) r2, fun z => by cases z⟩
end
theorem endG_ex {K : PySem.W.Frag} {ss' : List Sl} {rs : List Addr → Sl} {o : Res} (es : List Sl) (h : ∀ F G D, (∀ qs, Good K F G D (.rs (rs qs) (ss' ++ es))) → Good K F G D o) : EndG K rs ss' o := ⟨es, fun F G Q q => h F G _ fun qs v G' H' σ' s g => q qs v G' H' σ' s g⟩
theorem endG_opt {K : PySem.W.Frag} {ss' : List Sl} {A : Type} {r : Option A} {f : A → List Addr → Sl} {g : A → Res} (es : List Sl) (h : ∀ v F G D, (∀ qs, Good K F G D (.rs (f v qs) (ss' ++ es))) → Good K F G D (g v)) : EndG K (fun qs => r.elim (.d .non) fun v => f v qs) ss' (r.elim (.rt .non (ss' ++ es)) g) := by
  cases r with
  | none => exact endG_rt es
  | some v => exact endG_ex es (h v)
/-- f"{a text}" -/
theorem ev_fmt1 {K : PySem.W.Frag} {es : List Sl} {te : TE} {y z : Str} (h : Ev K te es (.str y)) (e : fstrC [y] = some z) : Ev K (tFmt te) es (.str y) := fun F G H σ s Q q => by
  obtain ⟨hl, rfl⟩ := ite_some e
  rw [lens_cons] at hl
  refine h F G H σ s _ fun v G1 H1 s1 g1 r1 => ?_
  cases r1
  have sz : (16000000 : Nat) ≤ sizeLine := by decide
  exact .inl ⟨y, rfl, by omega, q _ G1 H1 s1 g1 (.str _)⟩
/-- an option that comes back: both ways are walked -/
theorem sm_optS {K : PySem.W.Frag} {es : List Sl} {ρ A : Type} {t : TS} {oc : ρ → Res} {r : Option A} {k0 : Option ρ} {k1 : A → Option ρ} (h0 : r = none → SM K t es k0 oc) (h1 : ∀ v, r = some v → SM K t es (k1 v) oc) : SM K t es (r.elim k0 k1) oc := by
  cases r with
  | none => exact h0 rfl
  | some v => exact h1 v rfl
theorem flat_nonE : Flat .non := fun K G G2 v r => by cases r; exact .non
end DL

/-! Dl44: a call whose last argument is made for it alone: f(.., {}) -/
namespace DL
open PySem L2
/-- arguments of which the last is one's own and new: it stands in a slot ahead of all -/
def EvNS (K : PySem.W.Frag) (t : TA) (es : List Sl) (as : List Ar) (rs : List Addr → Sl) : Prop := ∀ F G H σ, Stt K F G H σ es → ∀ Q : List V → Hp → Prop, (∀ qs v vs G' H', Stt K F G' H' (some v :: σ) (rs qs :: es) → Same G G' → ArOk K G' (some v :: σ) vs as → Q vs H') → t σ H Q
section
variable {K : PySem.W.Frag} {es : List Sl} {as : List Ar} {te : TE} {ta : TA} {d x : Dt} {E : XK} {R : List Sl → (List Addr → Sl) → List Sl → Prop} {rs : List Addr → Sl}
theorem ens_last (h : EvS K te es es rs) : EvNS K (tCons te tNil) es [.v 0] rs := fun F G H σ s Q q =>
  h F G H σ s _ fun qs v G' H' s' g => q qs v [v] G' H' s' g ⟨rfl, trivial⟩
theorem ens_d (h : Ev K te es d) (r : EvNS K ta es as rs) : EvNS K (tCons te ta) es (.d d :: as) rs := fun F G H σ s Q q =>
  h F G H σ s _ fun v G1 H1 s1 g1 r1 => r F G1 H1 σ s1 _ fun qs w vs G2 H2 s2 g2 r2 => q qs w (v :: vs) G2 H2 s2 (g1.trans g2) ⟨r1.mono g2, r2⟩
theorem ev_callS (ha : EvNS K ta es as rs) (nd : nodupB (ixs as) = true) (hR : ∀ ps qs, ∃ ss' t', R (as.map (arS ps (rs qs :: es))) (fun _ => .d x) ss' ∧ putS as ss' (rs qs :: es) = t' :: es) : Ev K (tCall (FSpecG K R) [] E ta) es x := fun F G H σ s Q q =>
  ha F G H σ s _ fun qs v vs G1 H1 s1 g1 r1 => by
    obtain ⟨ps, hps⟩ := s1.names
    obtain ⟨ss1, t', hR1, he1⟩ := hR ps qs
    rw [List.append_nil]
    refine ⟨_, G1, _, _, ss1, s1.lend r1 nd hps, hR1, fun qs' w G2 H2 s2 g2 => ?_⟩
    have s3 := s1.back r1 nd s2 g2
    rw [he1] at s3
    exact q w G2 H2 s3.tl.tl (g1.trans g2) s3.hd
end
end DL

/-! Dl45: promises where it is known that no repr is under way (A.guards = some []): what repr of lists asks for -/
namespace DL
open PySem PySem.Spec L2 PyProof.Rows
/-- a def's promise at a call that no repr is around -/
structure FnG (P : Program) (w : World) (K : PySem.W.Frag) (mg : Str → Option Value) (base : Heap) (k : Nat) (f : Addr) (fd : FuncData) (ps : List Str) (sp : Sp) : Prop where
  len : ∀ vs H Q E, sp vs H Q E → vs.length = ps.length
  go : ∀ (A : Around) (outer : List Env) (s : Shared) (H : Hp) (args : Args) (us : List Value) (vs : List V) (Q : VK) (E : XK), A.guards = some [] → Room k A → Env0 P w K mg base A outer s H → BindsTo s fd args (ps.zip us) → Vals vs us → sp vs H Q E →
    codeAny (model P w) A (.call (.ref f) args) (CR CX0 outer P w H s Q E) s
section
variable {P : Program} {w : World} {K : PySem.W.Frag} {mg : Str → Option Value} {base : Heap}
theorem okG {x qual : Str} {st : Stmt} {f : Addr} {fd : FuncData} {N ps : List Str} {k : Nat} {sp : Sp} (F : Fun K x qual st f fd) (S : FnScope N ps (defScope st)) (len : ∀ vs H Q E, sp vs H Q E → vs.length = ps.length)
    (body : ∀ (cdv : Value) (A : Around) (outer : List Env) (s : Shared) (H : Hp) (vs : List V) (Q : VK) (E : XK), A.guards = some [] → Room k (A.deeper (envOfC qual (defScope st) s.heap.objs.size f cdv)) → sp vs H Q E →
      ∃ t, PSs (cxOf CX0 P w K mg base N qual (defScope st) f cdv A outer s H E).nox (defBody st) t ∧ t { nx := fun _ H' => Q .non H', rt := Q } (start N vs) H) : FnG P w K mg base (k + 1) f fd ps sp := by
  obtain ⟨oc, od, kV, doc, pm, an, cdv, ct, osl, rfl, lk, hcd⟩ := F.ex
  refine ⟨len, fun A outer s H args us vs Q E hg hr e0 hb r hsp => ?_⟩
  have held : ∀ b o, base.get? b = some o → s.heap.get? b = some o := fun b o e => (e0.bs b o e).1
  refine Att.call_fn (e0.mod.kin.keeps held) (e0.mod.nolimit.keeps held) lk hcd hr.depth hb ?_ (fun s1 x => ?_) S.co S.gen S.kind
  · refine List.all_eq_true.mpr fun y my => ?_
    rcases S.par y.1 (List.of_mem_zip (show (y.1, y.2) ∈ _ from my)).1 with q | q <;> rw [q] <;> rfl
  · obtain ⟨t, ht, hq⟩ := body cdv A outer s H vs Q E hg (hr.deeper _) hsp
    refine wpAny_mono (ht.nox.run [] s1 (start N vs) H _ (inv_start S hr.hd e0 (len _ _ _ _ hsp) r x) hq) (fun fl s' hs => ?_) fun e s' hs => hs
    cases fl with
    | ret u =>
      obtain ⟨v, σ', H', J, rv, q⟩ := hs
      exact ⟨v, H', J.os, J.bare, J.base, J.hok, rv, q⟩
    | next =>
      obtain ⟨σ', H', J, q⟩ := hs
      exact ⟨.non, H', J.os, J.bare, J.base, J.hok, rfl, q⟩
    | brk => obtain ⟨_, _, _, q⟩ := hs; exact q.elim
    | cont => obtain ⟨_, _, _, q⟩ := hs; exact q.elim
end
/-- the state in which a law is called, its script tracked or not -/
theorem lay_env {P : Program} {w : World} {K : PySem.W.Frag} {mg mb : Str → Option Value} {s₁ : Shared} {a : Addr} {vs : List Value} {H : Hp} (KX : K.In s₁.heap) (hns : s₁.heap.Ns mainGlobals mg) (hb : s₁.heap.Ns builtinsNs mb) (hbb : ∀ x : Str, x ≠ "__name__" → mb x = bootBuiltins x) (hlim : s₁.heap.NoLimit) (hg : s₁.gens = #[])
    (ha : s₁.heap.get? a = some { cls := .type "list", data := .seq vs.toArray }) (only : ∀ b, H b ≠ none → b = a ∧ K.lookup a = none) (hok : HOk P w H s₁.heap) :
    K.In (hidT s₁.heap H) ∧ (hidT s₁.heap H).Ns mainGlobals mg ∧ Env0 P w K mg (hidT s₁.heap H) callerA [] s₁ H := by
  have stay : ∀ (b : Addr) (o : Obj), s₁.heap.get? b = some o → (H b ≠ none → False) → (hidT s₁.heap H).get? b = some o := fun b o e n => hidT_get e (by
    cases q : H b with
    | none => rfl
    | some u => exact (n (by rw [q]; simp)).elim)
  have inK : K.In (hidT s₁.heap H) := fun b o e => stay b o (KX b o e) fun n => by
    obtain ⟨z, h⟩ := only b n
    rw [← z, e] at h
    cases h
  have names : ∀ {b : Addr} {m : Str → Option Value}, s₁.heap.Ns b m → (hidT s₁.heap H).Ns b m := fun ⟨o, es, ep, e, d, r⟩ => ⟨o, es, ep, stay _ _ e (fun n => by
    obtain ⟨z, _⟩ := only _ n
    rw [z, ha] at e
    cases e
    have d : Data.seq vs.toArray _ = Data.dict es ep := d
    cases d), d, r⟩
  obtain ⟨mc, m1, m2⟩ := hlim
  exact ⟨inK, names hns, ⟨rfl, ⟨inK, names hns, ⟨mb, names hb, hbb⟩, ⟨mc, names m1, m2⟩⟩, fun b o e => of_hidT e, Nat.le_of_eq (hidT_size _ _), trivial, fun b m => (by cases m), hok, .of_eq hg⟩⟩
/-- what the law's end leaves -/
theorem law_end {P : Program} {w : World} {H : Hp} {s₁ s' : Shared} {r : Result} {E : XK} (keep : ∀ b o u, s₁.heap.get? b = some o → H b = some u → ∃ xs, u = .frz o (.lst xs)) (h : CR CX0 [] P w H s₁ (fun v _ => v = .bl true) E r s') :
    r = .ok (.ret (.bool true)) ∧ OldK s₁.heap s'.heap ∧ s'.os = s₁.os ∧ AllBare s'.gens := by
  cases r with
  | error e => exact False.elim h
  | ok fl =>
    cases fl with
    | next => exact False.elim h
    | brk => exact False.elim h
    | cont => exact False.elim h
    | ret u =>
      obtain ⟨v, H', os, bare, un, hok', rv, q⟩ := h
      have q : v = .bl true := q
      subst q
      obtain rfl : u = Value.bool true := rv
      refine ⟨rfl, OldK.of_keep fun b o e => ?_, os, bare⟩
      cases q : H b with
      | none => exact un.keep b o e q (by intro z; cases z) (by simp)
      | some u =>
        obtain ⟨xs, rfl⟩ := keep b o u e q
        exact (hok' b _ (un.frzs b o _ q)).1
/-- a law whose promise asks for the ground without a repr -/
theorem walk_G {l : PySem.W.OpenLaw} {n k : Nat} {q : Program} {loose : List Str} {XP : (Str → Option Value) → Heap → Prop} {YP : World → Heap → Prop} {d : DefRec} {x : Str}
    (hn : l.most = some n) (hn2 : n ≤ sizeLine) (hdf : d.params.defaults = []) (hr : Room k callerA)
    (F : ∀ (w : World) (mg : Str → Option Value) (fa : Addr) (h : Heap), YP w h → h.Ns mainGlobals mg → mg d.name = some (.ref fa) →
      ∃ (K : PySem.W.Frag) (fd : FuncData) (sp : Sp), K.In h ∧ (∀ (s : Shared) (u : Value), BindsTo s fd ⟨[u], []⟩ [(x, u)]) ∧
        (∀ (H : Hp) (a : Addr) (ns : List Int), ns.length ≤ n → (∀ z ∈ ns, Builtin.Int.intBits z ≤ 1048576) → Only H → SqL K H a (ns.map V.int) → sp [.ref a] H (fun v _ => v = .bl true) fun _ _ _ => False) ∧
        ∀ base : Heap, K.In base → base.Ns mainGlobals mg → FnG l.prog w K mg base k fa fd [x] sp) :
    PySem.W.WalkO q loose XP YP l.row.toRowW d [] (fun f vs => PySem.call f vs) := by
  refine Att.attach_callB hn hdf fun w s₀ s₁ mg mb fa o pm cd doc a vs ns G Y ho hd hcd hmg ha hi hlen hbits hg => ?_
  obtain ⟨K, fd, sp, KX, hb, hsp, hF⟩ := F w mg fa _ Y G.T.g hmg
  have go : ∀ H : Hp, Only H → SqL K H a (ns.map V.int) → (∀ b, H b ≠ none → b = a ∧ K.lookup a = none) → HOk l.prog w H s₁.heap → (∀ b o u, s₁.heap.get? b = some o → H b = some u → ∃ xs, u = .frz o (.lst xs)) →
      codeAny (model l.prog w) callerA (.call (.ref fa) ⟨[.ref a], []⟩) (fun r s' => r = .ok (.ret (.bool true)) ∧ OldK s₁.heap s'.heap ∧ s'.os = s₁.os ∧ AllBare s'.gens) s₁ := fun H hO hS on hok keep => by
    obtain ⟨h1, h2, e0⟩ := lay_env (P := l.prog) (w := w) KX G.T.g G.T.b G.T.builtins G.T.nolimit hg ha on hok
    exact codeAny_mono ((hF _ h1 h2).go callerA [] s₁ H ⟨[.ref a], []⟩ [.ref a] [.ref a] _ _ rfl hr e0 (hb s₁ (.ref a)) (.cons rfl .nil) (hsp H a ns hlen hbits hO hS)) fun r s' h => law_end keep h
  have lv : vs.length = ns.length := hi.length
  have rv := vals_ints hi
  cases hk : K.lookup a with
  | some o' =>
    have e := KX a o' hk
    rw [ha] at e
    cases e
    exact go (fun _ => none) (fun _ => .inl rfl) (.inr ⟨_, vs.toArray, _, hk, rfl, rfl, rfl, by rw [List.size_toArray, lv]; exact Nat.le_trans hlen hn2, by simpa using rv⟩) (fun b z => absurd rfl z) (fun b u z => nomatch z) fun b o u _ z => nomatch z
  | none =>
    refine go (fun b => if b = a then some (.frz { cls := .type "list", data := .seq vs.toArray } (.lst (ns.map V.int))) else none) (fun b => ?_) (.inl (.inr ⟨{ cls := .type "list", data := .seq vs.toArray }, if_pos rfl⟩)) (fun b z => ?_) (fun b u z => ?_) fun b o u e z => ?_
    · by_cases c : b = a
      · exact .inr ⟨_, _, if_pos c⟩
      · exact .inl (if_neg c)
    · by_cases c : b = a
      · exact ⟨c, hk⟩
      · exact absurd (if_neg c) z
    · by_cases c : b = a
      · have z := (if_pos c).symm.trans z
        cases z
        subst c
        exact ⟨ha, by rw [List.length_map]; exact Nat.le_trans hlen hn2, vs, _, rv, ha⟩
      · have z := (if_neg c).symm.trans z
        cases z
    · by_cases c : b = a
      · have z := (if_pos c).symm.trans z
        cases z
        rw [c, ha] at e
        cases e
        exact ⟨_, rfl⟩
      · have z := (if_neg c).symm.trans z
        cases z
end DL

/-! Dl46: repr(a list) -/
namespace DL
open PySem L2
def rRepr (K : PySem.W.Frag) : List V → Hp → VK → Prop := fun xs H Q => ∃ (a : Addr) (d : PyData), xs = [.ref a] ∧ Dp K H (.ref a) d ∧ d.showable = true ∧ d.hasDict = false ∧ d.depth ≤ 60 ∧ d.shown.length ≤ sizeLine ∧ Q (.str d.shown) H
theorem call_repr {X : Cx} (hg : X.A.guards = some []) (hu : X.A.units + 64 < cLine) : CallR X (.builtin "repr") (rRepr X.K) := by
  intro pins s σ H xs us Q I r h
  obtain ⟨a, d, rfl, hd, hs, hn, hdp, hz, q⟩ := h
  cases r with
  | cons rx rr =>
    cases rr
    cases rx
    obtain ⟨as, rd⟩ := Dp.reads I d (.ref a) (.ref a) hd rfl
    exact repr_of_reads' rd hs (fun z => by rw [hn] at z; cases z) hg (by omega) (fun _ _ e => e) (fun h' u tk hk => ⟨.str d.shown, H, I.kept hk, ⟨u, rfl⟩, q⟩) hz
def reprC (d : Dt) : Option Str := match d with
  | .lst xs => if shD 60 (.lst xs) = true ∧ (pd (.lst xs)).showable = true ∧ (pd (.lst xs)).hasDict = false ∧ (pd (.lst xs)).depth ≤ 60 ∧ (pd (.lst xs)).shown.length ≤ sizeLine then some (pd (.lst xs)).shown else none
  | _ => none
section
variable {K : PySem.W.Frag} {es : List Sl} {te : TE} {d : Dt} {z : Str}
theorem ev_repr (h : Ev K te es d) (e : reprC d = some z) : Ev K (tCB (rRepr K) (tCons te tNil)) es (.str z) := fun F G H σ s Q q => by
  cases d with
  | lst xs =>
    have e : (if shD 60 (.lst xs) = true ∧ (pd (.lst xs)).showable = true ∧ (pd (.lst xs)).hasDict = false ∧ (pd (.lst xs)).depth ≤ 60 ∧ (pd (.lst xs)).shown.length ≤ sizeLine then some (pd (.lst xs)).shown else none) = some z := e
    obtain ⟨⟨c1, c2, c3, c4, c5⟩, rfl⟩ := ite_some e
    refine h F G H σ s _ fun v G1 H1 s1 g1 r1 => ?_
    have hd := SH.dp s1.g (shD_ok c1) r1
    cases r1 with
    | lst => exact ⟨_, _, rfl, hd, c2, c3, c4, c5, q _ G1 H1 s1 g1 (.str _)⟩
  | _ => cases e
end
theorem FnG.imp {P : Program} {w : World} {K : PySem.W.Frag} {mg : Str → Option Value} {base : Heap} {k : Nat} {f : Addr} {fd : FuncData} {ps : List Str} {sp sp' : Sp} (F : FnG P w K mg base k f fd ps sp) (h : ∀ vs H Q E, sp' vs H Q E → sp vs H Q E) : FnG P w K mg base k f fd ps sp' :=
  ⟨fun vs H Q E q => F.len vs H Q E (h _ _ _ _ q), fun A outer s H args us vs Q E hg hr he hb hv hs => F.go A outer s H args us vs Q E hg hr he hb hv (h _ _ _ _ hs)⟩
section
variable {P : Program} {w : World} {K : PySem.W.Frag} {mg : Str → Option Value} {base : Heap}
/-- a def of data, where no repr is under way -/
theorem fn_DG {x qual : Str} {st : Stmt} {f : Addr} {fd : FuncData} {N ps : List Str} {k : Nat} {R : List Dt → Dt → Prop} (F : Fun K x qual st f fd) (S : FnScope N ps (defScope st)) (hl : ∀ ds d, R ds d → ds.length = ps.length)
    (body : ∀ (cdv : Value) (A : Around) (outer : List Env) (s : Shared) (H : Hp) (E : XK), A.guards = some [] → Room k (A.deeper (PyProof.Rows.envOfC qual (defScope st) s.heap.objs.size f cdv)) →
      ∃ t, PSs (cxOf CX0 P w K mg base N qual (defScope st) f cdv A outer s H E).nox (defBody st) t ∧ ∀ ds d, R ds d → ∃ o es, SEv K t (ds.map .d ++ List.replicate (N.length - ps.length) .un) o ∧ Ends2 d es o) :
    FnG P w K mg base (k + 1) f fd ps (FSpec K (RD R)) := by
  refine okG F S (fun vs H Q E h => ?_) (fun cdv A outer s H vs Q E hg hr h => ?_)
  · obtain ⟨F, G, ss, d, ss', s, ⟨ds, rfl, _, hR⟩, _⟩ := h
    have := s.len
    rw [List.length_map, List.length_map, hl ds d hR] at this
    exact this
  · obtain ⟨t, ht, hb⟩ := body cdv A outer s H E hg hr
    refine ⟨t, ht, ?_⟩
    obtain ⟨F1, G, ss, d, ss', st1, ⟨ds, rfl, rfl, hR⟩, q⟩ := h
    obtain ⟨o, es, hs, he⟩ := hb ds d hR
    refine hs F1 G H _ _ (stt_start st1 (by rw [List.length_map, hl ds d hR])) (good_end he fun v G' H' σ' s' g r => ?_)
    have rs : Reps K G vs ds := data_of (vs := vs) (ds := ds) (K := K) (F := F1) (G := G) (H := H) (by have := st1.len; simpa using this) st1.sl
    exact q v G' H' (stt_data s'.f s'.g s'.dj (rs.mono g)) g r
end
end DL

namespace G
open PySem L2 DL
inductive Stp where
  | w_move (a0 : Str)
  | w_hold (a0 : (Option Str))
  | w_set (a0 : Str) (a1 : Bool)
  | w_wait (a0 : Str) (a1 : Bool)
  | w_jump (a0 : Int)
  | w_if (a0 : Str) (a1 : Int)
  deriving DecidableEq
def Stp.out : Stp → (Sum (Unit × Str) (Sum (Unit × (Option Str)) (Sum (Unit × Str × Bool) (Sum (Unit × Str × Bool) (Sum (Unit × Int) (Unit × Str × Int))))))
  | .w_move a0 => Sum.inl ((), a0)
  | .w_hold a0 => Sum.inr (Sum.inl ((), a0))
  | .w_set a0 a1 => Sum.inr (Sum.inr (Sum.inl ((), a0, a1)))
  | .w_wait a0 a1 => Sum.inr (Sum.inr (Sum.inr (Sum.inl ((), a0, a1))))
  | .w_jump a0 => Sum.inr (Sum.inr (Sum.inr (Sum.inr (Sum.inl ((), a0)))))
  | .w_if a0 a1 => Sum.inr (Sum.inr (Sum.inr (Sum.inr (Sum.inr ((), a0, a1)))))
def d_Stp : Stp → Dt
  | .w_move a0 => .tup [.str "move", Dt.str a0]
  | .w_hold a0 => .tup [.str "hold", (dO Dt.str) a0]
  | .w_set a0 a1 => .tup [.str "set", Dt.str a0, Dt.bl a1]
  | .w_wait a0 a1 => .tup [.str "wait", Dt.str a0, Dt.bl a1]
  | .w_jump a0 => .tup [.str "jump", Dt.int a0]
  | .w_if a0 a1 => .tup [.str "if", Dt.str a0, Dt.int a1]
theorem d_Stp_out (t : Stp) : d_Stp t = (dS (dT2 (dK "move") Dt.str) (dS (dT2 (dK "hold") (dO Dt.str)) (dS (dT3 (dK "set") Dt.str Dt.bl) (dS (dT3 (dK "wait") Dt.str Dt.bl) (dS (dT2 (dK "jump") Dt.int) (dT3 (dK "if") Dt.str Dt.int)))))) t.out := by cases t <;> rfl
def Stp.word : Stp → Str
  | .w_move _ => ("move" : Str)
  | .w_hold _ => ("hold" : Str)
  | .w_set _ _ => ("set" : Str)
  | .w_wait _ _ => ("wait" : Str)
  | .w_jump _ => ("jump" : Str)
  | .w_if _ _ => ("if" : Str)
theorem d_Stp_word (x : Stp) : ∃ ds, d_Stp x = .tup ds ∧ atI ds 0 = some (.str x.word) := by cases x <;> exact ⟨_, rfl, rfl⟩
def Stp.at1S : Stp → Option Str
  | .w_move a0 => some a0
  | .w_hold a0 => none
  | .w_set a0 a1 => some a0
  | .w_wait a0 a1 => some a0
  | .w_jump a0 => none
  | .w_if a0 a1 => some a0
theorem d_Stp_at1S {x : Stp} {v : Str} (h : Stp.at1S x = some v) : ∃ ds, d_Stp x = .tup ds ∧ atI ds 1 = some (Dt.str v) := by cases x <;> cases h <;> exact ⟨_, rfl, rfl⟩
def Stp.at1O : Stp → Option (Option Str)
  | .w_move a0 => some (some a0)
  | .w_hold a0 => some a0
  | .w_set a0 a1 => some (some a0)
  | .w_wait a0 a1 => some (some a0)
  | .w_jump a0 => none
  | .w_if a0 a1 => some (some a0)
theorem d_Stp_at1O {x : Stp} {v : (Option Str)} (h : Stp.at1O x = some v) : ∃ ds, d_Stp x = .tup ds ∧ atI ds 1 = some ((dO Dt.str) v) := by cases x <;> cases h <;> exact ⟨_, rfl, rfl⟩
def Stp.at1I : Stp → Option Int
  | .w_move a0 => none
  | .w_hold a0 => none
  | .w_set a0 a1 => none
  | .w_wait a0 a1 => none
  | .w_jump a0 => some a0
  | .w_if a0 a1 => none
theorem d_Stp_at1I {x : Stp} {v : Int} (h : Stp.at1I x = some v) : ∃ ds, d_Stp x = .tup ds ∧ atI ds 1 = some (Dt.int v) := by cases x <;> cases h <;> exact ⟨_, rfl, rfl⟩
def Stp.at2B : Stp → Option Bool
  | .w_move a0 => none
  | .w_hold a0 => none
  | .w_set a0 a1 => some a1
  | .w_wait a0 a1 => some a1
  | .w_jump a0 => none
  | .w_if a0 a1 => none
theorem d_Stp_at2B {x : Stp} {v : Bool} (h : Stp.at2B x = some v) : ∃ ds, d_Stp x = .tup ds ∧ atI ds 2 = some (Dt.bl v) := by cases x <;> cases h <;> exact ⟨_, rfl, rfl⟩
def Stp.at2I : Stp → Option Int
  | .w_move a0 => none
  | .w_hold a0 => none
  | .w_set a0 a1 => none
  | .w_wait a0 a1 => none
  | .w_jump a0 => none
  | .w_if a0 a1 => some a1
theorem d_Stp_at2I {x : Stp} {v : Int} (h : Stp.at2I x = some v) : ∃ ds, d_Stp x = .tup ds ∧ atI ds 2 = some (Dt.int v) := by cases x <;> cases h <;> exact ⟨_, rfl, rfl⟩
def m__law_number (script : (List Int)) (k : Int) : Option Int :=
lt (0 : Int) fun cell1 =>
(if (decide (k < (script.length : Int))) = true then
(atC script k).bind fun t2 =>
some (t2 : Int)
else
some (cell1 : Int)).bind fun (s3 : Int) =>
(if (decide (s3 < 0)) = true then
(mulC 2 s3).bind fun t4 =>
lt (1 - t4 : Int) fun cell5 =>
some (cell5 : Int)
else
some (s3 : Int)).bind fun (s6 : Int) =>
if (decide (1000000000 ≤ s6)) = true then
some s6
else
(mulC (s6 + 17) 48271).bind fun t7 =>
(mulC (k + 3) 69621).bind fun t8 =>
(modC (t7 + t8) 2147483647).bind fun t9 =>
(mulC t9 40692).bind fun t10 =>
(mulC (s6 + 5) (k + 11)).bind fun t11 =>
(modC (t10 + t11) 2147483399).bind fun t12 =>
(mulC t9 2147483399).bind fun t13 =>
some (t13 + t12)
def m__law_digits (script : (List Int)) (first : Int) (count : Int) : Option (List Int) :=
lt (0 : Int) fun number_here1 =>
(rngC 0 count).bind fun r2 =>
(forL r2 (number_here1 : Int) fun k4 s3 =>
(mulC s3 4611686018427387904).bind fun t5 =>
(m__law_number script (((first + count) - 1) - k4)).bind fun t6 =>
lt (t5 + t6 : Int) fun number_here7 =>
some (number_here7 : Int)).bind fun (s8 : Int) =>
some [s8]
def m__law_digit (digits_here : (List Int)) (many : Int) : Option (Int × List Int) :=
(atC digits_here 0).bind fun t1 =>
(modC t1 many).bind fun t2 =>
(atC digits_here 0).bind fun t3 =>
(divC t3 many).bind fun t4 =>
(setC digits_here 0 t4).bind fun digits_here5 =>
some (t2, digits_here5)
def m__law_step (digits_here : (List Int)) (index : Int) (size : Int) : Option (Stp × List Int) :=
(m__law_digit digits_here 6).bind fun t1 =>
(atC [("a" : Str), ("b2" : Str), ("c_" : Str), ("move_" : Str), ("x" : Str), ("abcdefghijklmnopqrst" : Str)] t1.1).bind fun t2 =>
(m__law_digit t1.2 9).bind fun t3 =>
(m__law_digit t3.2 (size - index)).bind fun t4 =>
if (decide (t3.1 < 3)) = true then
some ((Stp.w_jump ((index + 1) + t4.1)), t4.2)
else
if (decide (t3.1 = 3)) = true then
some ((Stp.w_if t2 ((index + 1) + t4.1)), t4.2)
else
if (decide (t3.1 = 4)) = true then
(m__law_digit t4.2 2).bind fun t5 =>
some ((Stp.w_set t2 (decide (t5.1 = 1))), t5.2)
else
if (decide (t3.1 = 5)) = true then
(m__law_digit t4.2 2).bind fun t6 =>
some ((Stp.w_wait t2 (decide (t6.1 = 1))), t6.2)
else
if (decide (t3.1 = 6)) = true then
some ((Stp.w_hold (none : (Option Str))), t4.2)
else
if (decide (t3.1 = 7)) = true then
some ((Stp.w_hold (some t2)), t4.2)
else
some ((Stp.w_move t2), t4.2)
def m_landing (flow : (List Stp)) (index : Int) : Option Int :=
thenF (S := Int) (R := Int) (whileF 1000000 (index : Int) (fun s1 => (if (decide (s1 < (flow.length : Int))) = true then (atC flow s1).bind fun t2 => some (decide (t2.word = ("jump" : Str))) else some false).bind fun b3 => some b3) fun s1 =>
(atC flow s1).bind fun t4 =>
(Stp.at1I t4).bind fun t5 =>
some (.nx t5)) (fun (s6 : Int) =>
some s6) (fun r => r)
def m__law_is_integer (actual : Int) : Option Bool :=
some (true && (!false))
def m__law_landing (flow : (List Stp)) (index : Int) : Option Int :=
(rngC 0 ((flow.length : Int) + 1)).bind fun r1 =>
(forL r1 (index : Int) fun k3 s2 =>
(if (decide (s2 < (flow.length : Int))) = true then (atC flow s2).bind fun t4 => some (decide (t4.word = ("jump" : Str))) else some false).bind fun b5 =>
(if b5 = true then
(atC flow s2).bind fun t6 =>
(Stp.at1I t6).bind fun t7 =>
some (t7 : Int)
else
some (s2 : Int)).bind fun (s8 : Int) =>
some (s8 : Int)).bind fun (s9 : Int) =>
some s9
def m_names_in (flow : (List Stp)) (word : Unit) : Option (List Str) :=
lt ([] : (List Str)) fun names1 =>
(forL flow (names1 : (List Str)) fun step3 s2 =>
(if (decide (step3.word = ("move" : Str))) = true then (Stp.at1O step3).bind fun t4 => (if (!t4.isNone) = true then (Stp.at1O step3).bind fun t5 => (t5).bind fun o6 => some (!(decide (o6 ∈ s2))) else some false).bind fun b7 => some b7 else some false).bind fun b8 =>
(if b8 = true then
(Stp.at1O step3).bind fun t9 =>
(t9).bind fun o10 =>
(appC s2 o10).bind fun names11 =>
some (names11 : (List Str))
else
some (s2 : (List Str))).bind fun (s12 : (List Str)) =>
some (s12 : (List Str))).bind fun (s13 : (List Str)) =>
some s13
def m_points_of (flow : (List Stp)) : Option (List Str) :=
(m_names_in flow ()).bind fun t1 =>
some t1
def m__law_each (flow : (List Stp)) (word : Unit) : Option (List Str) :=
lt ([] : (List Str)) fun names1 =>
(forL flow (names1 : (List Str)) fun step_here3 s2 =>
(if (decide (step_here3.word = ("move" : Str))) = true then (Stp.at1O step_here3).bind fun t4 => (if (!t4.isNone) = true then (Stp.at1O step_here3).bind fun t5 => (t5).bind fun o6 => some (!(decide (o6 ∈ s2))) else some false).bind fun b7 => some b7 else some false).bind fun b8 =>
(if b8 = true then
(Stp.at1O step_here3).bind fun t9 =>
(t9).bind fun o10 =>
(appC s2 o10).bind fun names11 =>
some (names11 : (List Str))
else
some (s2 : (List Str))).bind fun (s12 : (List Str)) =>
some (s12 : (List Str))).bind fun (s13 : (List Str)) =>
some s13
def m_names_in_2 (flow : (List Stp)) (word : Unit) : Option (List Str) :=
lt ([] : (List Str)) fun names1 =>
(forL flow (names1 : (List Str)) fun step3 s2 =>
(if (decide (step3.word = ("set" : Str))) = true then (Stp.at1O step3).bind fun t4 => (if (!t4.isNone) = true then (Stp.at1O step3).bind fun t5 => (t5).bind fun o6 => some (!(decide (o6 ∈ s2))) else some false).bind fun b7 => some b7 else some false).bind fun b8 =>
(if b8 = true then
(Stp.at1O step3).bind fun t9 =>
(t9).bind fun o10 =>
(appC s2 o10).bind fun names11 =>
some (names11 : (List Str))
else
some (s2 : (List Str))).bind fun (s12 : (List Str)) =>
some (s12 : (List Str))).bind fun (s13 : (List Str)) =>
some s13
def m_signals_of (flow : (List Stp)) : Option (List Str) :=
(m_names_in_2 flow ()).bind fun t1 =>
some t1
def m__law_each_2 (flow : (List Stp)) (word : Unit) : Option (List Str) :=
lt ([] : (List Str)) fun names1 =>
(forL flow (names1 : (List Str)) fun step_here3 s2 =>
(if (decide (step_here3.word = ("set" : Str))) = true then (Stp.at1O step_here3).bind fun t4 => (if (!t4.isNone) = true then (Stp.at1O step_here3).bind fun t5 => (t5).bind fun o6 => some (!(decide (o6 ∈ s2))) else some false).bind fun b7 => some b7 else some false).bind fun b8 =>
(if b8 = true then
(Stp.at1O step_here3).bind fun t9 =>
(t9).bind fun o10 =>
(appC s2 o10).bind fun names11 =>
some (names11 : (List Str))
else
some (s2 : (List Str))).bind fun (s12 : (List Str)) =>
some (s12 : (List Str))).bind fun (s13 : (List Str)) =>
some s13
def m_names_in_3 (flow : (List Stp)) (word : Unit) : Option (List Str) :=
lt ([] : (List Str)) fun names1 =>
(forL flow (names1 : (List Str)) fun step3 s2 =>
(if (decide (step3.word = ("hold" : Str))) = true then (Stp.at1O step3).bind fun t4 => (if (!t4.isNone) = true then (Stp.at1O step3).bind fun t5 => (t5).bind fun o6 => some (!(decide (o6 ∈ s2))) else some false).bind fun b7 => some b7 else some false).bind fun b8 =>
(if b8 = true then
(Stp.at1O step3).bind fun t9 =>
(t9).bind fun o10 =>
(appC s2 o10).bind fun names11 =>
some (names11 : (List Str))
else
some (s2 : (List Str))).bind fun (s12 : (List Str)) =>
some (s12 : (List Str))).bind fun (s13 : (List Str)) =>
some s13
def m_parts_of (flow : (List Stp)) : Option (List Str) :=
(m_names_in_3 flow ()).bind fun t1 =>
some t1
def m__law_each_3 (flow : (List Stp)) (word : Unit) : Option (List Str) :=
lt ([] : (List Str)) fun names1 =>
(forL flow (names1 : (List Str)) fun step_here3 s2 =>
(if (decide (step_here3.word = ("hold" : Str))) = true then (Stp.at1O step_here3).bind fun t4 => (if (!t4.isNone) = true then (Stp.at1O step_here3).bind fun t5 => (t5).bind fun o6 => some (!(decide (o6 ∈ s2))) else some false).bind fun b7 => some b7 else some false).bind fun b8 =>
(if b8 = true then
(Stp.at1O step_here3).bind fun t9 =>
(t9).bind fun o10 =>
(appC s2 o10).bind fun names11 =>
some (names11 : (List Str))
else
some (s2 : (List Str))).bind fun (s12 : (List Str)) =>
some (s12 : (List Str))).bind fun (s13 : (List Str)) =>
some s13
def m_law (script : (List Int)) : Option Bool :=
(m__law_number script 0).bind fun t1 =>
(modC t1 31).bind fun t2 =>
lt ([] : (List Stp)) fun flow3 =>
(rngC 0 t2).bind fun r4 =>
(forL r4 (flow3 : (List Stp)) fun k6 s5 =>
(m__law_digits script (k6 + 1) 1).bind fun t7 =>
(m__law_step t7 k6 t2).bind fun t8 =>
(appC s5 t8.1).bind fun flow9 =>
some (flow9 : (List Stp))).bind fun (s10 : (List Stp)) =>
(reprC (.lst (List.map d_Stp s10))).bind fun t11 =>
(rngC 0 (t2 + 1)).bind fun r12 =>
thenF (S := Unit) (R := Bool) (forF r12 (() : Unit) fun index14 s13 =>
(m_landing s10 index14).bind fun t15 =>
(m__law_is_integer t15).bind fun t16 =>
(if (!t16) = true then some true else (m__law_landing s10 index14).bind fun t17 => some (!(decide (t15 = t17)))).bind fun b18 =>
if b18 = true then
some (.rt false)
else
some (.nx ())) (fun (s19 : Unit) =>
(m_points_of s10).bind fun t20 =>
(m__law_each s10 ()).bind fun t21 =>
(eqDC ((dL Dt.str) t20) ((dL Dt.str) t21)).bind fun t22 =>
(if (!t22) = true then some true else (m_signals_of s10).bind fun t23 => (m__law_each_2 s10 ()).bind fun t24 => (eqDC ((dL Dt.str) t23) ((dL Dt.str) t24)).bind fun t25 => some (!t25)).bind fun b26 =>
if b26 = true then
some false
else
(m_parts_of s10).bind fun t27 =>
(m__law_each_3 s10 ()).bind fun t28 =>
(eqDC ((dL Dt.str) t27) ((dL Dt.str) t28)).bind fun t29 =>
(if t29 = true then (reprC (.lst (List.map d_Stp s10))).bind fun t30 => some (decide (t30 = t11)) else some false).bind fun b31 =>
some b31) (fun r => r)
end G

/-! Mx: plain mathematics for the mirrors: partial values that are there (Tot), sizes (lg). -/
namespace DL
open PySem L2

def Tot {α : Type} (m : Option α) (P : α → Prop) : Prop := ∃ x, m = some x ∧ P x
section
variable {α β γ : Type} {P : α → Prop} {Q : β → Prop}
theorem tot_some {x : α} (h : P x) : Tot (some x) P := ⟨x, rfl, h⟩
theorem tot_bind {m : Option α} {f : α → Option β} (h : Tot m P) (k : ∀ x, P x → Tot (f x) Q) : Tot (m.bind f) Q := by
  obtain ⟨x, rfl, p⟩ := h
  exact k x p
theorem tot_lt {e : α} {f : α → Option β} (k : ∀ x, x = e → Tot (f x) Q) : Tot (lt e f) Q := k e rfl
theorem tot_imp {P' : α → Prop} {m : Option α} (h : Tot m P) (k : ∀ x, P x → P' x) : Tot m P' := by
  obtain ⟨x, e, p⟩ := h
  exact ⟨x, e, k x p⟩
theorem tot_ite {b : Bool} {p q : Option α} (h1 : b = true → Tot p P) (h2 : b = false → Tot q P) : Tot (if b = true then p else q) P := by
  cases b with
  | true => exact h1 rfl
  | false => exact h2 rfl
theorem tot_true {m : Option Bool} (h : Tot m (· = true)) : m = some true := by
  obtain ⟨x, e, rfl⟩ := h
  exact e
theorem tot_eq {m : Option α} {x : α} (h : m = some x) : Tot m (· = x) := ⟨x, h, rfl⟩
/-- a loop, by what holds between its turns -/
theorem tot_forL {S : Type} {W : S → Prop} {f : α → S → Option S} : ∀ {xs : List α} {s : S}, W s → (∀ x s, x ∈ xs → W s → Tot (f x s) W) → Tot (forL xs s f) W
  | [], s, h, _ => ⟨s, rfl, h⟩
  | x :: xs, s, h, k => tot_bind (k x s List.mem_cons_self h) fun s' h' => tot_forL h' fun y z hy hz => k y z (List.mem_cons_of_mem _ hy) hz
/-- a loop that leaves by a wrong answer alone: it never does -/
theorem tot_forF {S R : Type} {W : S → Prop} {f : α → S → Option (Fl S R)} : ∀ {xs : List α} {s : S}, W s → (∀ x s, x ∈ xs → W s → Tot (f x s) fun o => ∃ s', o = .nx s' ∧ W s') → Tot (forF xs s f) fun o => ∃ s', o = .nx s' ∧ W s'
  | [], s, h, _ => ⟨.nx s, rfl, s, rfl, h⟩
  | x :: xs, s, h, k => by
    obtain ⟨o, e, s', rfl, h'⟩ := k x s List.mem_cons_self h
    obtain ⟨o2, e2, s2, rfl, h2⟩ := tot_forF (xs := xs) h' fun y z hy hz => k y z (List.mem_cons_of_mem _ hy) hz
    refine ⟨.nx s2, ?_, s2, rfl, h2⟩
    show (f x s).bind _ = _
    rw [e]
    exact e2
theorem tot_thenF {S R ρ : Type} {W : S → Prop} {P : ρ → Prop} {m : Option (Fl S R)} {k : S → Option ρ} {er : R → ρ} (h : Tot m fun o => ∃ s', o = .nx s' ∧ W s') (h2 : ∀ s, W s → Tot (k s) P) : Tot (thenF m k er) P := by
  obtain ⟨o, rfl, s', rfl, w⟩ := h
  exact h2 s' w
/-- a loop over a list by place -/
theorem tot_forLi {S : Type} {W : Nat → S → Prop} {f : α → S → Option S} {xs : List α} {s : S} (h : W 0 s) (k : ∀ i x s, xs[i]? = some x → W i s → Tot (f x s) (W (i + 1))) : Tot (forL xs s f) (W xs.length) := by
  have gen : ∀ (ys : List α) (n : Nat) (s : S), xs.drop n = ys → n ≤ xs.length → W n s → Tot (forL ys s f) (W xs.length) := by
    intro ys
    induction ys with
    | nil =>
      intro n s e hn hw
      have : n = xs.length := by
        have := congrArg List.length e
        rw [List.length_drop, List.length_nil] at this
        omega
      subst this
      exact ⟨s, rfl, hw⟩
    | cons y ys ih =>
      intro n s e hn hw
      have hlt : n < xs.length := by
        have := congrArg List.length e
        rw [List.length_drop, List.length_cons] at this
        omega
      have hy : xs[n]? = some y := by
        have := congrArg (fun l => l[0]?) e
        simpa using this
      refine tot_bind (k n y s hy hw) fun s' hs' => ih (n + 1) s' ?_ hlt hs'
      have := congrArg (List.drop 1) e
      simpa [List.drop_drop, Nat.add_comm] using this
  exact gen xs 0 s rfl (Nat.zero_le _) h
end

/-! ### sizes -/
def lg (x : Int) : Nat := x.natAbs.log2
theorem lg_le_of {x : Int} {n : Nat} (h : x.natAbs < 2 ^ (n + 1)) : lg x ≤ n := by
  unfold lg
  by_cases h0 : x.natAbs = 0
  · rw [h0, Nat.log2_zero]
    exact Nat.zero_le _
  · exact Nat.le_of_lt_succ ((Nat.log2_lt h0).mpr h)
theorem lt_lg (x : Int) : x.natAbs < 2 ^ (lg x + 1) := by
  unfold lg
  by_cases h0 : x.natAbs = 0
  · rw [h0]
    exact Nat.pow_pos (by decide)
  · exact (Nat.log2_lt h0).mp (Nat.lt_succ_self _)
theorem lg_mono {x y : Int} (h : x.natAbs ≤ y.natAbs) : lg x ≤ lg y := lg_le_of (Nat.lt_of_le_of_lt h (lt_lg y))
theorem lg_mul (x y : Int) : lg (x * y) ≤ lg x + lg y + 1 := by
  refine lg_le_of ?_
  rw [Int.natAbs_mul]
  have h := Nat.mul_lt_mul'' (lt_lg x) (lt_lg y)
  rw [← Nat.pow_add] at h
  have e : lg x + 1 + (lg y + 1) = lg x + lg y + 1 + 1 := by omega
  rw [e] at h
  exact h
theorem lg_add (x y : Int) : lg (x + y) ≤ max (lg x) (lg y) + 1 := by
  refine lg_le_of ?_
  have hx : x.natAbs < 2 ^ (max (lg x) (lg y) + 1) := Nat.lt_of_lt_of_le (lt_lg x) (Nat.pow_le_pow_right (by decide) (by omega))
  have hy : y.natAbs < 2 ^ (max (lg x) (lg y) + 1) := Nat.lt_of_lt_of_le (lt_lg y) (Nat.pow_le_pow_right (by decide) (by omega))
  rw [Nat.pow_succ 2 (max (lg x) (lg y) + 1)]
  omega
theorem lg_neg (x : Int) : lg (-x) = lg x := by
  unfold lg
  rw [Int.natAbs_neg]
theorem lg_sub (x y : Int) : lg (x - y) ≤ max (lg x) (lg y) + 1 := by
  have := lg_add x (-y)
  rw [lg_neg] at this
  exact this
theorem lg_bits {x : Int} {n : Nat} (h : Builtin.Int.intBits x ≤ n) : lg x ≤ n := by
  unfold Builtin.Int.intBits at h
  unfold lg
  split at h
  · rename_i e
    have : x.natAbs = 0 := by simpa using e
    rw [this, Nat.log2_zero]
    exact Nat.zero_le _
  · omega
theorem lg_max {x y : Int} {n : Nat} (hx : lg x ≤ n) (hy : lg y ≤ n) : lg (max x y) ≤ n := by
  rcases Int.le_total x y with h | h
  · rw [Int.max_eq_right h]; exact hy
  · rw [Int.max_eq_left h]; exact hx
/-- below a bound -/
theorem lg_le {x : Int} {b : Nat} (h : x.natAbs ≤ b) {n : Nat} (hb : b.log2 ≤ n) : lg x ≤ n := by
  refine Nat.le_trans ?_ hb
  have : lg x ≤ lg (b : Int) := lg_mono (by rw [Int.natAbs_natCast]; exact h)
  exact this

/-! ### the operations -/
section
variable {β : Type} {Q : β → Prop} {f : Int → Option β}
theorem mulC_eq {a b : Int} (h : lg a + lg b < 100000000) : mulC a b = some (a * b) := if_pos h
theorem tot_mul {a b : Int} (h : lg a + lg b < 100000000) (k : Tot (f (a * b)) Q) : Tot ((mulC a b).bind f) Q := by
  rw [mulC_eq h]
  exact k
theorem divC_eq {a b : Int} (h : 0 < b) (h2 : lg b < 9000) : divC a b = some (a / b) := if_pos ⟨h, h2⟩
theorem tot_div {a b : Int} (h : 0 < b) (h2 : lg b < 9000) (k : Tot (f (a / b)) Q) : Tot ((divC a b).bind f) Q := by
  rw [divC_eq h h2]
  exact k
theorem modC_eq {a b : Int} (h : 0 < b) : modC a b = some (a % b) := if_pos h
theorem tot_mod {a b : Int} (h : 0 < b) (k : 0 ≤ a % b → a % b < b → Tot (f (a % b)) Q) : Tot ((modC a b).bind f) Q := by
  rw [modC_eq h]
  exact k (Int.emod_nonneg _ (by omega)) (Int.emod_lt_of_pos _ h)
theorem powC_eq {a b : Int} (h : 0 ≤ b ∧ b ≤ 1000000 ∧ a.natAbs < 2 ^ 64) : powC a b = some (a ^ b.toNat) := if_pos (by
  obtain ⟨h1, h2, h3⟩ := h
  refine ⟨h1, ?_⟩
  have l : a.natAbs.log2 ≤ 63 := lg_le_of (x := a) (n := 63) h3
  have := Int.mul_le_mul_of_nonneg_right (show (a.natAbs.log2 : Int) + 1 ≤ 64 by omega) h1
  omega)
theorem powC_two {a : Int} (h : lg a ≤ 60000000) : powC a 2 = some (a ^ (2 : Int).toNat) := if_pos (by unfold lg at h; omega)
theorem tot_pow {a b : Int} (h : 0 ≤ b ∧ b ≤ 1000000 ∧ a.natAbs < 2 ^ 64) (k : Tot (f (a ^ b.toNat)) Q) : Tot ((powC a b).bind f) Q := by
  rw [powC_eq h]
  exact k
theorem shlC_eq {a b : Int} (h : 0 ≤ b ∧ b ≤ 1000000 ∧ a.natAbs < 2 ^ 64) : shlC a b = some (a * 2 ^ b.toNat) := if_pos (by
  obtain ⟨h1, h2, h3⟩ := h
  have l : a.natAbs.log2 ≤ 63 := lg_le_of (x := a) (n := 63) h3
  omega)
theorem tot_shl {a b : Int} (h : 0 ≤ b ∧ b ≤ 1000000 ∧ a.natAbs < 2 ^ 64) (k : Tot (f (a * 2 ^ b.toNat)) Q) : Tot ((shlC a b).bind f) Q := by
  rw [shlC_eq h]
  exact k
theorem shrC_eq {a b : Int} (h : 0 ≤ b) : shrC a b = some (a / 2 ^ b.toNat) := if_pos h
theorem tot_shr {a b : Int} (h : 0 ≤ b) (k : Tot (f (a / 2 ^ b.toNat)) Q) : Tot ((shrC a b).bind f) Q := by
  rw [shrC_eq h]
  exact k
theorem atC_nat {α : Type} {xs : List α} {i : Nat} : atC xs (i : Int) = xs[i]? := by
  unfold atC atI ixN
  by_cases h : i < xs.length
  · rw [if_pos (by omega), if_pos (by omega)]
    rfl
  · rw [if_pos (by omega), if_neg (by omega), List.getElem?_eq_none (by omega)]
    rfl
theorem atC_get {α : Type} {xs : List α} {i : Int} (h0 : 0 ≤ i) (h : i < xs.length) : ∃ x, atC xs i = some x ∧ x ∈ xs ∧ xs[i.toNat]? = some x := by
  have hi : i.toNat < xs.length := by omega
  refine ⟨xs[i.toNat], ?_, List.getElem_mem hi, List.getElem?_eq_getElem hi⟩
  have : atC xs ((i.toNat : Nat) : Int) = xs[i.toNat]? := atC_nat
  rw [Int.toNat_of_nonneg h0] at this
  rw [this, List.getElem?_eq_getElem hi]
theorem tot_at {α : Type} {xs : List α} {i : Int} {g : α → Option β} (h0 : 0 ≤ i) (h : i < xs.length) (k : ∀ x, x ∈ xs → xs[i.toNat]? = some x → Tot (g x) Q) : Tot ((atC xs i).bind g) Q := by
  obtain ⟨x, e, m, e2⟩ := atC_get h0 h
  rw [e]
  exact k x m e2
theorem tot_app {α : Type} {xs : List α} {x : α} {g : List α → Option β} (h : xs.length < 10000000) (k : Tot (g (xs ++ [x])) Q) : Tot ((appC xs x).bind g) Q := by
  unfold appC
  rw [if_pos h]
  exact k
theorem mem_rng {lo hi x : Int} : x ∈ rng lo hi ↔ lo ≤ x ∧ x < hi := by
  unfold rng
  simp only [List.mem_map, List.mem_range]
  constructor
  · rintro ⟨i, h, rfl⟩
    omega
  · rintro ⟨h1, h2⟩
    exact ⟨(x - lo).toNat, by omega, by omega⟩
theorem rng_len {lo hi : Int} : (rng lo hi).length = (hi - lo).toNat := by
  unfold rng
  rw [List.length_map, List.length_range]
theorem rng_get {lo hi x : Int} {i : Nat} (h : (rng lo hi)[i]? = some x) : x = lo + i ∧ (i : Int) < hi - lo := by
  unfold rng at h
  rw [List.getElem?_map] at h
  by_cases hi' : i < (hi - lo).toNat
  · rw [List.getElem?_range hi'] at h
    cases h
    exact ⟨rfl, by omega⟩
  · rw [List.getElem?_eq_none (by simpa using hi')] at h
    cases h
theorem tot_rng {lo hi : Int} {g : List Int → Option β} (h : -(2 ^ 62) ≤ lo ∧ lo < 2 ^ 62 ∧ -(2 ^ 62) ≤ hi ∧ hi < 2 ^ 62) (k : Tot (g (rng lo hi)) Q) : Tot ((rngC lo hi).bind g) Q := by
  rw [rngC_of h]
  exact k
theorem isqrt_spec {i : Int} (h0 : 0 ≤ i) (h : lg i ≤ 13000) : ∃ r : Int, isqrtC i = some r ∧ 0 ≤ r ∧ r * r ≤ i ∧ i < (r + 1) * (r + 1) := by
  have e : i.toNat.log2 ≤ 13000 := by
    unfold lg at h
    have : i.toNat = i.natAbs := by omega
    rw [this]
    exact h
  refine ⟨((Float64.isqrt i.toNat : Nat) : Int), if_pos ⟨h0, e⟩, Int.natCast_nonneg _, ?_, ?_⟩
  · have h1 := (PySem.Float64.isqrt_spec i.toNat).1
    have h2 : ((Float64.isqrt i.toNat * Float64.isqrt i.toNat : Nat) : Int) ≤ (i.toNat : Int) := Int.ofNat_le.mpr h1
    rw [Int.toNat_of_nonneg h0] at h2
    simpa using h2
  · have h1 := (PySem.Float64.isqrt_spec i.toNat).2
    have h2 : (i.toNat : Int) < (((Float64.isqrt i.toNat + 1) * (Float64.isqrt i.toNat + 1) : Nat) : Int) := Int.ofNat_lt.mpr h1
    rw [Int.toNat_of_nonneg h0] at h2
    simpa using h2
end
end DL

/-! My: sizes found by instances. -/
namespace DL
open PySem L2
open PySem L2

class Szl (x : Int) (n : outParam Nat) : Prop where
  le : lg x ≤ n
section
variable {a b : Int} {m n : Nat}
instance szl_lit (k : Nat) : Szl (no_index (OfNat.ofNat k) : Int) (Nat.log2 k) := ⟨Nat.le_refl _⟩
instance szl_neg [h : Szl a m] : Szl (-a) m := ⟨by rw [lg_neg]; exact h.le⟩
instance szl_mul [h : Szl a m] [k : Szl b n] : Szl (a * b) (m + n + 1) := ⟨by
  have := lg_mul a b
  have := h.le
  have := k.le
  omega⟩
instance szl_add [h : Szl a m] [k : Szl b n] : Szl (a + b) (max m n + 1) := ⟨by
  have := lg_add a b
  have := h.le
  have := k.le
  omega⟩
instance szl_sub [h : Szl a m] [k : Szl b n] : Szl (a - b) (max m n + 1) := ⟨by
  have := lg_sub a b
  have := h.le
  have := k.le
  omega⟩
instance szl_abs [h : Szl a m] : Szl (a.natAbs : Int) m := ⟨by
  have e : lg (a.natAbs : Int) = lg a := by unfold lg; rw [Int.natAbs_natCast]
  rw [e]
  exact h.le⟩
instance szl_max [h : Szl a m] [k : Szl b n] : Szl (max a b) (max m n) := ⟨by
  have := h.le
  have := k.le
  exact lg_max (by omega) (by omega)⟩
theorem lg_min {x y : Int} {n : Nat} (hx : lg x ≤ n) (hy : lg y ≤ n) : lg (min x y) ≤ n := by
  rcases Int.le_total x y with h | h
  · rw [Int.min_eq_left h]; exact hx
  · rw [Int.min_eq_right h]; exact hy
instance szl_min [h : Szl a m] [k : Szl b n] : Szl (min a b) (max m n) := ⟨by
  have := h.le
  have := k.le
  exact lg_min (by omega) (by omega)⟩
theorem lg_div {x y : Int} (h : 0 < y) : lg (x / y) ≤ lg x := by
  refine lg_mono ?_
  have h1 := Int.emod_add_mul_ediv x y
  have h2 := Int.emod_nonneg x (show y ≠ 0 by omega)
  have h3 := Int.emod_lt_of_pos x h
  generalize x / y = q at h1 ⊢
  generalize x % y = r at h1 h2 h3
  by_cases hq : 0 ≤ q
  · have := Int.mul_le_mul_of_nonneg_right (show (1 : Int) ≤ y by omega) hq
    rw [Int.one_mul] at this
    omega
  · have := Int.mul_le_mul_of_nonneg_right (show (1 : Int) ≤ y by omega) (show 0 ≤ -(q + 1) by omega)
    rw [Int.one_mul, Int.mul_neg, Int.mul_add, Int.mul_one] at this
    omega
theorem lg_mod {x y : Int} (h : 0 < y) : lg (x % y) ≤ lg y := by
  refine lg_mono ?_
  have h2 := Int.emod_nonneg x (show y ≠ 0 by omega)
  have h3 := Int.emod_lt_of_pos x h
  omega
theorem szl_of (h : lg a ≤ n) : Szl a n := ⟨h⟩
/-- by its size -/
theorem szl_abs_of {B : Nat} (h : a.natAbs ≤ B) : Szl a (Nat.log2 B) := ⟨lg_le h (Nat.le_refl _)⟩
theorem szl_le (h : Szl a m) (k : m ≤ n) : Szl a n := ⟨Nat.le_trans h.le k⟩

variable {β : Type} {Q : β → Prop} {f : Int → Option β}
theorem mul_s (ha : Szl a m) (hb : Szl b n) (h : m + n < 100000000) : mulC a b = some (a * b) := mulC_eq (by have := ha.le; have := hb.le; omega)
theorem t_mul [ha : Szl a m] [hb : Szl b n] (k : Tot (f (a * b)) Q) (h : m + n < 100000000 := by decide) : Tot ((mulC a b).bind f) Q := by
  rw [mul_s ha hb h]
  exact k
theorem t_div (h : 0 < b) [hb : Szl b n] (k : Tot (f (a / b)) Q) (h2 : n < 9000 := by decide) : Tot ((divC a b).bind f) Q := tot_div h (Nat.lt_of_le_of_lt hb.le h2) k
/-- % by a written number: the rest is a letter from here on -/
theorem t_mod (h : 0 < b) [hb : Szl b n] (k : ∀ x, x = a % b → 0 ≤ x → x < b → Szl x n → Tot (f x) Q) : Tot ((modC a b).bind f) Q := by
  rw [modC_eq h]
  exact k _ rfl (Int.emod_nonneg _ (by omega)) (Int.emod_lt_of_pos _ h) ⟨Nat.le_trans (lg_mod h) hb.le⟩
theorem t_at {α : Type} {xs : List α} {i : Int} {g : α → Option β} (h0 : 0 ≤ i) (h : i < xs.length) (k : ∀ x, x ∈ xs → xs[i.toNat]? = some x → Tot (g x) Q) : Tot ((atC xs i).bind g) Q := tot_at h0 h k
theorem t_no {P : β → Prop} {c : Bool} {p q : Option β} (h : c = false) (k : Tot q P) : Tot (if c = true then p else q) P := by
  subst h
  exact k
theorem t_yes {P : β → Prop} {c : Bool} {p q : Option β} (h : c = true) (k : Tot p P) : Tot (if c = true then p else q) P := by
  subst h
  exact k
/-- a partial value that is known -/
theorem t_eq {α : Type} {m : Option α} {x : α} {g : α → Option β} {P : β → Prop} (h : m = some x) (k : Tot (g x) P) : Tot (m.bind g) P := by
  rw [h]
  exact k
theorem t_bind {α : Type} {P : α → Prop} {m : Option α} {g : α → Option β} (h : Tot m P) (k : ∀ x, P x → Tot (g x) Q) : Tot (m.bind g) Q := tot_bind h k
/-- a loop's turn that goes on -/
theorem t_go {S R : Type} {s : S} {W : S → Prop} (h : W s) : Tot (some (Fl.nx s : Fl S R)) fun o => ∃ s', o = .nx s' ∧ W s' := ⟨_, rfl, s, rfl, h⟩
end

/-! ### vectors of three -/
abbrev V3 := Int × Int × Int
class Szv (v : V3) (n : outParam Nat) : Prop where
  x : lg v.1 ≤ n
  y : lg v.2.1 ≤ n
  z : lg v.2.2 ≤ n
section
variable {v w : V3} {m n : Nat}
instance szv_x [h : Szv v n] : Szl v.1 n := ⟨h.x⟩
instance szv_y [h : Szv v n] : Szl v.2.1 n := ⟨h.y⟩
instance szv_z [h : Szv v n] : Szl v.2.2 n := ⟨h.z⟩
theorem szv_of {B : Nat} (h : v.1.natAbs ≤ B ∧ v.2.1.natAbs ≤ B ∧ v.2.2.natAbs ≤ B) : Szv v (Nat.log2 B) := ⟨lg_le h.1 (Nat.le_refl _), lg_le h.2.1 (Nat.le_refl _), lg_le h.2.2 (Nat.le_refl _)⟩
theorem szv_le (h : Szv v m) (k : m ≤ n) : Szv v n := ⟨Nat.le_trans h.x k, Nat.le_trans h.y k, Nat.le_trans h.z k⟩
instance szv_mk {a b c : Int} {k l p : Nat} [h1 : Szl a k] [h2 : Szl b l] [h3 : Szl c p] : Szv (a, b, c) (max k (max l p)) := ⟨by have := h1.le; show lg a ≤ _; omega, by have := h2.le; show lg b ≤ _; omega, by have := h3.le; show lg c ≤ _; omega⟩
/-- the inner product -/
def dotv (v w : V3) : Int := v.1 * w.1 + v.2.1 * w.2.1 + v.2.2 * w.2.2
def addv (v w : V3) : V3 := (v.1 + w.1, v.2.1 + w.2.1, v.2.2 + w.2.2)
def subv (v w : V3) : V3 := (v.1 - w.1, v.2.1 - w.2.1, v.2.2 - w.2.2)
def mulv (v : V3) (k : Int) : V3 := (v.1 * k, v.2.1 * k, v.2.2 * k)
instance szl_dot [h : Szv v m] [k : Szv w n] : Szl (dotv v w) (m + n + 3) := ⟨by
  have h1 : Szl (v.1 * w.1 + v.2.1 * w.2.1 + v.2.2 * w.2.2) _ := inferInstance
  have := h1.le
  unfold dotv
  omega⟩
instance szv_add [h : Szv v m] [k : Szv w n] : Szv (addv v w) (max m n + 1) := ⟨(inferInstance : Szl (v.1 + w.1) _).le, (inferInstance : Szl (v.2.1 + w.2.1) _).le, (inferInstance : Szl (v.2.2 + w.2.2) _).le⟩
instance szv_sub [h : Szv v m] [k : Szv w n] : Szv (subv v w) (max m n + 1) := ⟨(inferInstance : Szl (v.1 - w.1) _).le, (inferInstance : Szl (v.2.1 - w.2.1) _).le, (inferInstance : Szl (v.2.2 - w.2.2) _).le⟩
instance szv_mul {k : Int} [h : Szv v m] [q : Szl k n] : Szv (mulv v k) (m + n + 1) := ⟨(inferInstance : Szl (v.1 * k) _).le, (inferInstance : Szl (v.2.1 * k) _).le, (inferInstance : Szl (v.2.2 * k) _).le⟩
end
theorem eqD_V3 (v w : V3) : eqD (dT3 Dt.int Dt.int Dt.int v) (dT3 Dt.int Dt.int Dt.int w) = decide (v = w) := by
  obtain ⟨a, b, c⟩ := v
  obtain ⟨a', b', c'⟩ := w
  rw [Bool.eq_iff_iff, decide_eq_true_eq]
  simp [eqD, pd, pds, PyData.eqv, PyData.eqvAll]
theorem dotv_self_nonneg (v : V3) : 0 ≤ dotv v v := by
  unfold dotv
  have h : ∀ x : Int, 0 ≤ x * x := fun x => by
    rcases Int.le_total 0 x with h | h
    · exact Int.mul_nonneg h h
    · exact Int.mul_nonneg_of_nonpos_of_nonpos h h
  have := h v.1
  have := h v.2.1
  have := h v.2.2
  omega
end DL
namespace DL
open PySem L2
theorem sq_eq (x : Int) : x ^ (2 : Int).toNat = x * x := by
  show x ^ 2 = _
  rw [Int.pow_succ, Int.pow_succ, Int.pow_zero, Int.one_mul]
/-- x ** 2 -/
theorem t_sq {β : Type} {Q : β → Prop} {f : Int → Option β} {a : Int} (h : a.natAbs < 2 ^ 64) (k : Tot (f (a * a)) Q) : Tot ((powC a 2).bind f) Q :=
  tot_pow ⟨by decide, by decide, h⟩ (by rw [sq_eq]; exact k)
theorem three {k : Int} (h : 0 ≤ k) (h' : k < 3) : k = 0 ∨ k = 1 ∨ k = 2 := by omega
theorem eq_of {α : Type} {m : Option α} {v : α} (h : Tot m fun x => x = v) : m = some v := by
  obtain ⟨x, e, rfl⟩ := h
  exact e
theorem t_lt {α β : Type} {Q : β → Prop} {e : α} {f : α → Option β} (k : Tot (f e) Q) : Tot (lt e f) Q := k
end DL
namespace DL
open PySem L2
/-- a loop that may be left by a break, by place -/
theorem tot_forFi {α S R : Type} {W : Nat → S → Prop} {B : S → Prop} {f : α → S → Option (Fl S R)} {xs : List α} {s : S} (h : W 0 s) (k : ∀ i x s, xs[i]? = some x → W i s → Tot (f x s) fun o => (∃ s', o = .nx s' ∧ W (i + 1) s') ∨ ∃ s', o = .bk s' ∧ B s') :
    Tot (forF xs s f) fun o => (∃ s', o = .nx s' ∧ W xs.length s') ∨ ∃ s', o = .bk s' ∧ B s' := by
  have gen : ∀ (ys : List α) (n : Nat) (s : S), xs.drop n = ys → n ≤ xs.length → W n s → Tot (forF ys s f) fun o => (∃ s', o = .nx s' ∧ W xs.length s') ∨ ∃ s', o = .bk s' ∧ B s' := by
    intro ys
    induction ys with
    | nil =>
      intro n s e hn hw
      have : n = xs.length := by
        have := congrArg List.length e
        rw [List.length_drop, List.length_nil] at this
        omega
      subst this
      exact ⟨.nx s, rfl, .inl ⟨s, rfl, hw⟩⟩
    | cons y ys ih =>
      intro n s e hn hw
      have hlt : n < xs.length := by
        have := congrArg List.length e
        rw [List.length_drop, List.length_cons] at this
        omega
      have hy : xs[n]? = some y := by
        have := congrArg (fun l => l[0]?) e
        simpa using this
      obtain ⟨o, eo, ho⟩ := k n y s hy hw
      have nxt : xs.drop (n + 1) = ys := by
        have := congrArg (List.drop 1) e
        simpa [List.drop_drop, Nat.add_comm] using this
      rcases ho with ⟨s', rfl, hs'⟩ | ⟨s', rfl, hb⟩
      · obtain ⟨o2, e2, h2⟩ := ih (n + 1) s' nxt hlt hs'
        refine ⟨o2, ?_, h2⟩
        show (f y s).bind _ = _
        rw [eo]
        exact e2
      · refine ⟨.bk s', ?_, .inr ⟨s', rfl, hb⟩⟩
        show (f y s).bind _ = _
        rw [eo]
        rfl
  exact gen xs 0 s rfl (Nat.zero_le _) h
theorem tot_thenB {S R ρ : Type} {W B : S → Prop} {P : ρ → Prop} {m : Option (Fl S R)} {k : S → Option ρ} {er : R → ρ} (h : Tot m fun o => (∃ s', o = .nx s' ∧ W s') ∨ ∃ s', o = .bk s' ∧ B s') (h2 : ∀ s, (W s ∨ B s) → Tot (k s) P) : Tot (thenF m k er) P := by
  obtain ⟨o, rfl, ⟨s', rfl, w⟩ | ⟨s', rfl, w⟩⟩ := h
  · exact h2 s' (.inl w)
  · exact h2 s' (.inr w)
/-- 2 to the power k, as a number that doubles -/
def pw (k : Nat) : Int := (2 : Int) ^ k
theorem pw_zero : pw 0 = 1 := rfl
theorem pw_succ (k : Nat) : pw (k + 1) = 2 * pw k := by
  unfold pw
  rw [Int.pow_succ, Int.mul_comm]
theorem pw_pos (k : Nat) : 0 < pw k := by
  induction k with
  | zero => decide
  | succ k ih => rw [pw_succ]; omega
theorem pw_add (a b : Nat) : pw (a + b) = pw a * pw b := by
  unfold pw
  exact Int.pow_add _ _ _
theorem pw_le {a b : Nat} (h : a ≤ b) : pw a ≤ pw b := by
  obtain ⟨c, rfl⟩ := Nat.exists_eq_add_of_le h
  rw [pw_add]
  have h1 := pw_pos a
  have h2 := pw_pos c
  have := Int.mul_le_mul_of_nonneg_left (show (1 : Int) ≤ pw c by omega) (show 0 ≤ pw a by omega)
  rw [Int.mul_one] at this
  exact this
theorem pw_lt {a b : Nat} (h : pw a < pw b) : a < b := by
  rcases Nat.lt_or_ge a b with q | q
  · exact q
  · have := pw_le q
    omega
theorem lg_pw (k : Nat) : lg (pw k) = k := by
  unfold lg pw
  have : ((2 : Int) ^ k).natAbs = 2 ^ k := by
    rw [Int.natAbs_pow]
    rfl
  rw [this, Nat.log2_two_pow]
/-- the number of binary digits -/
theorem bits_spec {x : Int} (h : 0 < x) : ∃ n : Nat, Builtin.Int.intBits x = n + 1 ∧ pw n ≤ x ∧ x < pw (n + 1) := by
  refine ⟨x.natAbs.log2, ?_, ?_, ?_⟩
  · unfold Builtin.Int.intBits
    rw [if_neg (by simp; omega)]
  · have := Nat.log2_self_le (show x.natAbs ≠ 0 by omega)
    have e : pw x.natAbs.log2 = ((2 ^ x.natAbs.log2 : Nat) : Int) := by unfold pw; simp
    rw [e]
    omega
  · have := lt_lg x
    unfold lg at this
    have e : pw (x.natAbs.log2 + 1) = ((2 ^ (x.natAbs.log2 + 1) : Nat) : Int) := by unfold pw; simp
    rw [e]
    omega
end DL
namespace DL
open PySem L2
section
variable {α β γ : Type}
theorem mapO_tot {f : α → Option β} {P : α → β → Prop} : ∀ {xs : List α}, (∀ x ∈ xs, Tot (f x) (P x)) → Tot (mapO xs f) fun (ys : List β) => ys.length = xs.length ∧ ∀ (i : Nat) (x : α), xs[i]? = some x → ∃ y, ys[i]? = some y ∧ P x y
  | [], _ => ⟨[], rfl, rfl, fun _ _ h => nomatch h⟩
  | x :: xs, h => by
    obtain ⟨y, e, p⟩ := h x List.mem_cons_self
    obtain ⟨ys, e2, l, q⟩ := mapO_tot (xs := xs) fun z hz => h z (List.mem_cons_of_mem _ hz)
    refine ⟨y :: ys, ?_, by simp [l], fun i z hz => ?_⟩
    · show (f x).bind _ = _
      rw [e]
      show (mapO xs f).bind _ = _
      rw [e2]
      rfl
    · cases i with
      | zero => cases hz; exact ⟨y, rfl, p⟩
      | succ i => exact q i z hz
theorem mapC_tot {xs : List α} {f : α → Option β} {P : α → β → Prop} (hl : xs.length ≤ 1000000) (h : ∀ x ∈ xs, Tot (f x) (P x)) : Tot (mapC xs f) fun (ys : List β) => ys.length = xs.length ∧ ∀ (i : Nat) (x : α), xs[i]? = some x → ∃ y, ys[i]? = some y ∧ P x y := by
  unfold mapC
  rw [if_pos hl]
  exact mapO_tot h
theorem mapO_all {f : α → Option β} {g : α → β} : ∀ {xs : List α}, (∀ x ∈ xs, f x = some (g x)) → mapO xs f = some (xs.map g)
  | [], _ => rfl
  | x :: xs, h => by
    show (f x).bind _ = _
    rw [h x List.mem_cons_self]
    show (mapO xs f).bind _ = _
    rw [mapO_all fun z hz => h z (List.mem_cons_of_mem _ hz)]
    rfl
theorem mapC_all {xs : List α} {f : α → Option β} {g : α → β} (hl : xs.length ≤ 1000000) (h : ∀ x ∈ xs, f x = some (g x)) : mapC xs f = some (xs.map g) := by
  unfold mapC
  rw [if_pos hl]
  exact mapO_all h
/-- every one of a list that is made -/
theorem mapC_each {xs : List α} {f : α → Option β} {P : β → Prop} (hl : xs.length ≤ 1000000) (h : ∀ x ∈ xs, Tot (f x) P) : Tot (mapC xs f) fun ys => ys.length = xs.length ∧ ∀ y ∈ ys, P y := by
  refine tot_imp (mapC_tot (P := fun _ y => P y) hl h) fun ys ⟨l, q⟩ => ⟨l, fun y hy => ?_⟩
  obtain ⟨i, hi⟩ := List.mem_iff_getElem?.mp hy
  have hlt : i < xs.length := by
    have := (List.getElem?_eq_some_iff.mp hi).1
    omega
  obtain ⟨z, e, p⟩ := q i _ (List.getElem?_eq_getElem hlt)
  rw [hi] at e
  cases e
  exact p
theorem minL_get {xs : List Int} (h : xs ≠ []) : ∃ m, minL xs = some m ∧ m ∈ xs ∧ ∀ y ∈ xs, m ≤ y := by
  match xs, h with
  | x :: xs, _ =>
    obtain ⟨h1, h2, h3⟩ := foldl_min xs x
    refine ⟨_, rfl, ?_, fun y hy => ?_⟩
    · rcases h1 with h | h
      · rw [h]; exact List.mem_cons_self
      · exact List.mem_cons_of_mem _ h
    · rcases List.mem_cons.mp hy with rfl | h
      · exact h2
      · exact h3 y h
theorem maxL_get {xs : List Int} (h : xs ≠ []) : ∃ m, maxL xs = some m ∧ m ∈ xs ∧ ∀ y ∈ xs, y ≤ m := by
  match xs, h with
  | x :: xs, _ =>
    obtain ⟨h1, h2, h3⟩ := foldl_max xs x
    refine ⟨_, rfl, ?_, fun y hy => ?_⟩
    · rcases h1 with h | h
      · rw [h]; exact List.mem_cons_self
      · exact List.mem_cons_of_mem _ h
    · rcases List.mem_cons.mp hy with rfl | h
      · exact h2
      · exact h3 y h
end
/-- x ** 2 by its size -/
theorem t_sqs {β : Type} {Q : β → Prop} {f : Int → Option β} {a : Int} {n : Nat} [h : Szl a n] (k : Tot (f (a * a)) Q) (hn : n ≤ 60000000 := by decide) : Tot ((powC a 2).bind f) Q := by
  rw [powC_two (Nat.le_trans h.le hn)]
  show Tot (f (a ^ (2 : Int).toNat)) Q
  rw [sq_eq]
  exact k
end DL
namespace DL
open PySem L2
/-! ranges downward -/
theorem rngD_len {lo hi : Int} : (rngD lo hi).length = (lo - hi).toNat := by
  unfold rngD
  rw [List.length_map, List.length_range]
theorem rngD_get {lo hi x : Int} {i : Nat} (h : (rngD lo hi)[i]? = some x) : x = lo - i ∧ (i : Int) < lo - hi := by
  unfold rngD at h
  rw [List.getElem?_map] at h
  by_cases hi' : i < (lo - hi).toNat
  · rw [List.getElem?_range hi'] at h
    cases h
    exact ⟨rfl, by omega⟩
  · rw [List.getElem?_eq_none (by simpa using hi')] at h
    cases h
theorem tot_rngD {β : Type} {Q : β → Prop} {lo hi : Int} {g : List Int → Option β} (h : -(2 ^ 62) ≤ lo ∧ lo < 2 ^ 62 ∧ -(2 ^ 62) ≤ hi ∧ hi < 2 ^ 62) (k : Tot (g (rngD lo hi)) Q) : Tot ((rngDC lo hi).bind g) Q := by
  unfold rngDC
  rw [if_pos h]
  exact k
/-- a loop by place, its state known -/
theorem tot_forLe {α S ρ : Type} {F : Nat → S} {f : α → S → Option S} {xs : List α} {s : S} {Q : ρ → Prop} {g : S → Option ρ} (h : s = F 0) (k : ∀ (i : Nat) x, xs[i]? = some x → f x (F i) = some (F (i + 1))) (q : Tot (g (F xs.length)) Q) : Tot ((forL xs s f).bind g) Q := by
  refine tot_bind (tot_forLi (W := fun i s => s = F i) h fun i x s hx hs => ?_) fun s hs => by rw [hs]; exact q
  subst hs
  exact ⟨_, k i x hx, rfl⟩
theorem at_get {α : Type} {xs : List α} {i : Int} {n : Nat} {x : α} (e : i = (n : Int)) (h : xs[n]? = some x) : atC xs i = some x := by
  subst e
  rw [atC_nat]
  exact h
theorem up_add {x d : Int} (hd : 0 < d) : (x + (d - 1)) / d = -((-x) / d) := by
  have h1 := Int.emod_add_mul_ediv (-x) d
  have h2 := Int.emod_nonneg (-x) (show d ≠ 0 by omega)
  have h3 := Int.emod_lt_of_pos (-x) hd
  generalize (-x) / d = q at h1 ⊢
  generalize (-x) % d = r at h1 h2 h3
  have e : x + (d - 1) = (d - 1 - -r) + d * (-q) + -r + -r := by
    rw [Int.mul_neg]
    omega
  have e : x + (d - 1) = (d - 1 - r) + d * (-q) := by
    rw [Int.mul_neg]
    omega
  rw [e, Int.add_mul_ediv_left _ _ (by omega), Int.ediv_eq_zero_of_lt (by omega) (by omega)]
  omega
end DL
namespace DL
open PySem L2
section
variable {α β : Type}
theorem mapO_idx {f : α → Option β} : ∀ {ks : List α} {ys : List β}, ks.length = ys.length → (∀ (i : Nat) k y, ks[i]? = some k → ys[i]? = some y → f k = some y) → mapO ks f = some ys
  | [], [], _, _ => rfl
  | k :: ks, y :: ys, hl, h => by
    show (f k).bind _ = _
    rw [h 0 k y rfl rfl]
    show (mapO ks f).bind _ = _
    rw [mapO_idx (ks := ks) (ys := ys) (by simpa using hl) fun i k y hk hy => h (i + 1) k y hk hy]
    rfl
  | [], _ :: _, hl, _ => by simp at hl
  | _ :: _, [], hl, _ => by simp at hl
theorem mapC_idx {f : α → Option β} {ks : List α} {ys : List β} (hl : ks.length = ys.length) (hn : ks.length ≤ 1000000) (h : ∀ (i : Nat) k y, ks[i]? = some k → ys[i]? = some y → f k = some y) : mapC ks f = some ys := by
  unfold mapC
  rw [if_pos hn]
  exact mapO_idx hl h
theorem mapP_eq {xs : List α} {f : α → β} (h : xs.length ≤ 1000000) : mapP xs f = some (xs.map f) := by
  unfold mapP
  rw [if_pos h]
end
/-- the quotient rounded up -/
def upq (n d : Int) : Int := -((-n) / d)
theorem upq_ok {n d : Int} (hd : 0 < d) : (upq n d - 1) * d < n ∧ n ≤ upq n d * d := by
  unfold upq
  have h1 := Int.emod_add_mul_ediv (-n) d
  have h2 := Int.emod_nonneg (-n) (show d ≠ 0 by omega)
  have h3 := Int.emod_lt_of_pos (-n) hd
  generalize (-n) / d = q at h1 ⊢
  generalize (-n) % d = r at h1 h2 h3
  have e1 : -q * d = -(d * q) := by rw [Int.neg_mul, Int.mul_comm]
  have e2 : (-q - 1) * d = -(d * q) - d := by rw [Int.sub_mul, e1, Int.one_mul]
  rw [e1, e2]
  constructor <;> omega
theorem upq_le {n d k : Int} (hd : 0 < d) : upq n d ≤ k ↔ n ≤ k * d := by
  obtain ⟨h1, h2⟩ := upq_ok (n := n) hd
  constructor
  · intro h
    exact Int.le_trans h2 (Int.mul_le_mul_of_nonneg_right h (by omega))
  · intro h
    rcases Int.lt_or_le k (upq n d) with q | q
    · have := Int.mul_le_mul_of_nonneg_right (show k ≤ upq n d - 1 by omega) (show 0 ≤ d by omega)
      omega
    · exact q
theorem upq_nonneg {n d : Int} (hd : 0 < d) (hn : 0 ≤ n) : 0 ≤ upq n d := by
  obtain ⟨h1, h2⟩ := upq_ok (n := n) hd
  rcases Int.lt_or_le (upq n d) 0 with q | q
  · have := Int.mul_neg_of_neg_of_pos q hd
    omega
  · exact q
instance szl_upq {n d : Int} {m : Nat} [h : Szl n m] : Szl (upq n d) (m + 1) := ⟨by
  unfold upq
  rw [lg_neg]
  rcases Int.lt_trichotomy d 0 with q | q | q
  · have e : (-n) / d = -((-n) / (-d)) := by
      rw [Int.ediv_neg, Int.neg_neg]
    rw [e, lg_neg]
    have := lg_div (x := -n) (y := -d) (by omega)
    rw [lg_neg] at this
    have := h.le
    omega
  · subst q
    rw [Int.ediv_zero]
    have : lg 0 = 0 := by decide
    omega
  · have := lg_div (x := -n) q
    rw [lg_neg] at this
    have := h.le
    omega⟩
end DL
namespace DL
open PySem L2
theorem t_asc {α β γ : Type} {m : Option α} {f : α → Option β} {g : β → Option γ} {Q : γ → Prop} (h : Tot ((m.bind f).bind g) Q) : Tot (m.bind fun x => (f x).bind g) Q := by
  rw [Option.bind_assoc] at h
  exact h
end DL
namespace DL
open PySem L2
mutual
theorem eqv_pd : ∀ d : Dt, PyData.eqv (pd d) (pd d) = true
  | .non => by simp [pd, PyData.eqv]
  | .bl b => by simp [pd, PyData.eqv]
  | .int i => by simp [pd, PyData.eqv]
  | .str s => by simp [pd, PyData.eqv]
  | .ty n => by simp [pd, PyData.eqv]
  | .tup xs => by simp [pd, PyData.eqv, eqv_pds xs]
  | .lst xs => by simp [pd, PyData.eqv, eqv_pds xs]
  | .obj _ _ => by simp [pd, PyData.eqv]
  | .dic _ _ => by simp [pd, PyData.eqv]
theorem eqv_pds : ∀ ds : List Dt, PyData.eqvAll (pds ds) (pds ds) = true
  | [] => by simp [pds, PyData.eqvAll]
  | x :: xs => by simp [pds, PyData.eqvAll, eqv_pd x, eqv_pds xs]
end
theorem eqD_self (d : Dt) : eqD d d = true := eqv_pd d
/-- a loop that appends -/
theorem app_loop {α β : Type} {f : α → List β → Option (List β)} {g : α → β} : ∀ {xs : List α} {s : List β}, (∀ x s, x ∈ xs → s.length < 10000000 → f x s = some (s ++ [g x])) → s.length + xs.length < 10000000 → forL xs s f = some (s ++ xs.map g)
  | [], s, _, _ => by rw [List.map_nil, List.append_nil]; rfl
  | x :: xs, s, h, hl => by
    rw [List.length_cons] at hl
    show (f x s).bind _ = _
    rw [h x s List.mem_cons_self (by omega)]
    show forL xs (s ++ [g x]) f = _
    rw [app_loop (xs := xs) (fun y t hy => h y t (List.mem_cons_of_mem _ hy)) (by rw [List.length_append, List.length_singleton]; omega)]
    rw [List.append_assoc]
    rfl
theorem appC_eq {α : Type} {xs : List α} {x : α} (h : xs.length < 10000000) : appC xs x = some (xs ++ [x]) := if_pos h
end DL
namespace DL
open PySem L2
/-- a loop over range(n) that appends one item a turn -/
theorem app_idx {β : Type} {n : Nat} {f : Int → List β → Option (List β)} {P : Nat → β → Prop} (h : ∀ (i : Nat) s, i < n → s.length = i → Tot (f (i : Int) s) fun s' => ∃ y, s' = s ++ [y] ∧ P i y) : Tot (forL (rng 0 (n : Int)) [] f) fun s => s.length = n ∧ ∀ (i : Nat) y, s[i]? = some y → P i y := by
  have hlen : (rng 0 (n : Int)).length = n := by rw [rng_len]; omega
  refine tot_imp (tot_forLi (W := fun i (s : List β) => s.length = i ∧ ∀ (k : Nat) y, s[k]? = some y → P k y) ⟨rfl, fun _ _ h => nomatch h⟩ fun i k s hk ⟨h1, h2⟩ => ?_) fun s h => by rw [hlen] at h; exact h
  obtain ⟨ek, hk2⟩ := rng_get hk
  have ek : k = (i : Int) := by omega
  subst ek
  refine tot_imp (h i s (by omega) h1) fun s' ⟨y, e, p⟩ => ?_
  subst e
  refine ⟨by rw [List.length_append, List.length_singleton, h1], fun k z hz => ?_⟩
  by_cases hki : k < i
  · rw [List.getElem?_append_left (by omega)] at hz
    exact h2 k z hz
  · have hlt := (List.getElem?_eq_some_iff.mp hz).1
    rw [List.length_append, List.length_singleton] at hlt
    have : k = i := by omega
    subst this
    rw [List.getElem?_append_right (by omega), h1, Nat.sub_self] at hz
    cases hz
    exact p
end DL

/-! Gm: plain geometry of places, lines and their gaps. -/
namespace DL
open PySem L2
theorem sq_nn (x : Int) : 0 ≤ x * x := by
  rcases Int.le_total 0 x with h | h
  · exact Int.mul_nonneg h h
  · exact Int.mul_nonneg_of_nonpos_of_nonpos h h
theorem cauchy (v w : V3) : dotv v w * dotv v w ≤ dotv v v * dotv w w := by
  have h1 := sq_nn (v.1 * w.2.1 - v.2.1 * w.1)
  have h2 := sq_nn (v.1 * w.2.2 - v.2.2 * w.1)
  have h3 := sq_nn (v.2.1 * w.2.2 - v.2.2 * w.2.1)
  have : dotv v v * dotv w w - dotv v w * dotv v w = (v.1 * w.2.1 - v.2.1 * w.1) * (v.1 * w.2.1 - v.2.1 * w.1) + (v.1 * w.2.2 - v.2.2 * w.1) * (v.1 * w.2.2 - v.2.2 * w.1) + (v.2.1 * w.2.2 - v.2.2 * w.2.1) * (v.2.1 * w.2.2 - v.2.2 * w.2.1) := by
    unfold dotv
    grind
  omega
theorem dotv_zero {v : V3} (h : dotv v v = 0) : v = (0, 0, 0) := by
  have e : v.1 * v.1 + v.2.1 * v.2.1 + v.2.2 * v.2.2 = 0 := h
  have s1 := sq_nn v.1
  have s2 := sq_nn v.2.1
  have s3 := sq_nn v.2.2
  have e1 : v.1 = 0 := (Int.mul_eq_zero.mp (show v.1 * v.1 = 0 by omega)).elim id id
  have e2 : v.2.1 = 0 := (Int.mul_eq_zero.mp (show v.2.1 * v.2.1 = 0 by omega)).elim id id
  have e3 : v.2.2 = 0 := (Int.mul_eq_zero.mp (show v.2.2 * v.2.2 = 0 by omega)).elim id id
  exact Prod.ext e1 (Prod.ext e2 e3)
/-- the nearest place of a line: the gap's vector and scale -/
def pgv (p a b : V3) : V3 × Int :=
  if dotv (subv p a) (subv b a) ≤ 0 then (subv p a, 1)
  else if dotv (subv b a) (subv b a) ≤ dotv (subv p a) (subv b a) then (subv p b, 1)
  else (subv (mulv (subv p a) (dotv (subv b a) (subv b a))) (mulv (subv b a) (dotv (subv p a) (subv b a))), dotv (subv b a) (subv b a))
/-- (p - a) * n - (b - a) * k -/
def on (p a b : V3) (n k : Int) : V3 := subv (mulv (subv p a) n) (mulv (subv b a) k)
theorem on_sq (p a b : V3) (n k : Int) : dotv (on p a b n k) (on p a b n k) = n * n * dotv (subv p a) (subv p a) - 2 * n * k * dotv (subv p a) (subv b a) + k * k * dotv (subv b a) (subv b a) := by
  unfold on
  generalize subv p a = O
  generalize subv b a = D
  unfold dotv subv mulv
  dsimp only
  grind
theorem pgv_at (p a b : V3) : 1 ≤ (pgv p a b).2 ∧ ∃ k, 0 ≤ k ∧ k ≤ (pgv p a b).2 ∧ (pgv p a b).1 = on p a b (pgv p a b).2 k := by
  have d0 := dotv_self_nonneg (subv b a)
  unfold pgv
  split
  · refine ⟨Int.le_refl _, 0, Int.le_refl _, (show (0 : Int) ≤ 1 by decide), ?_⟩
    unfold on subv mulv
    dsimp only
    simp
  · split
    · refine ⟨Int.le_refl _, 1, (show (0 : Int) ≤ 1 by decide), Int.le_refl _, ?_⟩
      unfold on subv mulv
      dsimp only
      refine Prod.ext ?_ (Prod.ext ?_ ?_) <;> (dsimp only; omega)
    · refine ⟨?_, dotv (subv p a) (subv b a), ?_, ?_, rfl⟩ <;> omega
/-- no place of the line is nearer -/
theorem pgv_least (p a b : V3) {n k : Int} (n0 : 0 < n) (k0 : 0 ≤ k) (kn : k ≤ n) : dotv (pgv p a b).1 (pgv p a b).1 * (n * n) ≤ dotv (on p a b n k) (on p a b n k) * ((pgv p a b).2 * (pgv p a b).2) := by
  have h0 := dotv_self_nonneg (subv b a)
  rw [on_sq]
  unfold pgv
  have e3 := on_sq p a b (dotv (subv b a) (subv b a)) (dotv (subv p a) (subv b a))
  unfold on at e3
  have e2 : dotv (subv p b) (subv p b) = dotv (subv p a) (subv p a) - 2 * dotv (subv p a) (subv b a) + dotv (subv b a) (subv b a) := by
    unfold dotv subv
    dsimp only
    grind
  generalize hoo : dotv (subv p a) (subv p a) = oo at *
  generalize dotv (subv p a) (subv b a) = od at *
  generalize hdd : dotv (subv b a) (subv b a) = dd at *
  by_cases c1 : od ≤ 0
  · rw [if_pos c1]
    dsimp only
    rw [hoo]
    have p1 := Int.mul_nonneg (show 0 ≤ n by omega) (Int.mul_nonneg k0 (show 0 ≤ -od by omega))
    have p2 := Int.mul_nonneg (sq_nn k) h0
    have : (n * n * oo - 2 * n * k * od + k * k * dd) * (1 * 1) - oo * (n * n) = 2 * (n * (k * -od)) + k * k * dd := by grind
    omega
  · rw [if_neg c1]
    by_cases c2 : dd ≤ od
    · rw [if_pos c2]
      dsimp only
      rw [e2]
      have p1 := Int.mul_nonneg (show 0 ≤ n - k by omega) (Int.mul_nonneg (show 0 ≤ n - k by omega) h0)
      have p2 := Int.mul_nonneg (show 0 ≤ n by omega) (Int.mul_nonneg (show 0 ≤ n - k by omega) (show 0 ≤ od - dd by omega))
      have : (n * n * oo - 2 * n * k * od + k * k * dd) * (1 * 1) - (oo - 2 * od + dd) * (n * n) = (n - k) * ((n - k) * dd) + 2 * (n * ((n - k) * (od - dd))) := by grind
      omega
    · rw [if_neg c2]
      dsimp only
      rw [e3]
      have p1 := Int.mul_nonneg h0 (sq_nn (n * od - k * dd))
      have : (n * n * oo - 2 * n * k * od + k * k * dd) * (dd * dd) - (dd * dd * oo - 2 * dd * od * od + od * od * dd) * (n * n) = dd * ((n * od - k * dd) * (n * od - k * dd)) := by grind
      omega
/-- A * n + D * t - E * u -/
def pt (A D E : V3) (t u n : Int) : V3 := subv (addv (mulv A n) (mulv D t)) (mulv E u)
theorem pt_sq (A D E : V3) (t u n : Int) : dotv (pt A D E t u n) (pt A D E t u n) = n * n * dotv A A + t * t * dotv D D + u * u * dotv E E + 2 * n * t * dotv D A - 2 * n * u * dotv E A - 2 * t * u * dotv D E := by
  unfold pt dotv subv addv mulv
  dsimp only
  grind
/-- of some pairs with first parts above 0, one whose second part is least for its first -/
theorem least_pair : ∀ (L : List (Int × Int)), L ≠ [] → (∀ p ∈ L, 0 < p.1) → ∃ p ∈ L, ∀ q ∈ L, 0 ≤ p.1 * q.2 - p.2 * q.1
  | [p], _, _ => ⟨p, List.mem_cons_self, fun q hq => by
    rw [List.mem_singleton] at hq
    subst hq
    rw [Int.mul_comm]
    omega⟩
  | p :: r :: L, _, h => by
    obtain ⟨m, hm, h2⟩ := least_pair (r :: L) (by simp) fun q hq => h q (List.mem_cons_of_mem _ hq)
    have p0 := h p List.mem_cons_self
    have m0 := h m (List.mem_cons_of_mem _ hm)
    by_cases c : 0 ≤ m.1 * p.2 - m.2 * p.1
    · refine ⟨m, List.mem_cons_of_mem _ hm, fun q hq => ?_⟩
      rcases List.mem_cons.mp hq with rfl | hq
      · exact c
      · exact h2 q hq
    · refine ⟨p, List.mem_cons_self, fun q hq => ?_⟩
      rcases List.mem_cons.mp hq with rfl | hq
      · rw [Int.mul_comm]; omega
      · have q0 := h q (List.mem_cons_of_mem _ hq)
        have a1 := h2 q hq
        have a2 := Int.mul_nonneg (show 0 ≤ p.1 by omega) a1
        have a3 := Int.mul_nonneg (show 0 ≤ q.1 by omega) (show 0 ≤ -(m.1 * p.2 - m.2 * p.1) by omega)
        have e : p.1 * (m.1 * q.2 - m.2 * q.1) + q.1 * -(m.1 * p.2 - m.2 * p.1) = m.1 * (p.1 * q.2 - p.2 * q.1) := by grind
        rw [← Int.add_zero 0] at a2
        have a4 : 0 ≤ m.1 * (p.1 * q.2 - p.2 * q.1) := by omega
        by_cases g : 0 ≤ p.1 * q.2 - p.2 * q.1
        · exact g
        · exfalso
          have := Int.mul_lt_mul_of_pos_left (show p.1 * q.2 - p.2 * q.1 < 0 by omega) m0
          rw [Int.mul_zero] at this
          omega
/-- a place within the square of parts -/
def Sq (t u n : Int) : Prop := 0 < n ∧ 0 ≤ t ∧ t ≤ n ∧ 0 ≤ u ∧ u ≤ n
/-- at its border -/
def Brd (t u n : Int) : Prop := Sq t u n ∧ (t = 0 ∨ t = n ∨ u = 0 ∨ u = n)
/-- where there is no crossing, some place at the border is as near -/
theorem to_border {A D E : V3} {a b c d e w tc uc : Int} (ha : a = dotv D D) (hb : b = dotv D E) (hc : c = dotv E E) (hd : d = dotv D A) (he : e = dotv E A) (hw : w = a * c - b * b) (htc : tc = b * e - c * d) (huc : uc = a * e - b * d)
    (no : w ≤ 0 ∨ tc ≤ 0 ∨ w ≤ tc ∨ uc ≤ 0 ∨ w ≤ uc) {t u n : Int} (hs : Sq t u n) :
    ∃ t' u' n', Brd t' u' n' ∧ dotv (pt A D E t' u' n') (pt A D E t' u' n') * (n * n) ≤ dotv (pt A D E t u n) (pt A D E t u n) * (n' * n') := by
  obtain ⟨n0, t0, tn, u0, un⟩ := hs
  by_cases bd : t = 0 ∨ t = n ∨ u = 0 ∨ u = n
  · exact ⟨t, u, n, ⟨⟨n0, t0, tn, u0, un⟩, bd⟩, Int.le_refl _⟩
  have a0 : 0 ≤ a := ha ▸ dotv_self_nonneg _
  have w0 : 0 ≤ w := by
    have := cauchy D E
    rw [← ha, ← hb, ← hc] at this
    omega
  by_cases wp : 0 < w
  · have wn := Int.mul_pos wp n0
    have pos : ∀ x, 0 < x → 0 < x * w := fun x h => Int.mul_pos h wp
    obtain ⟨p, hp, hmin⟩ := least_pair [(t * w, tc * n), ((n - t) * w, (w - tc) * n), (u * w, uc * n), ((n - u) * w, (w - uc) * n)] (by simp) (by
      intro p hp
      simp only [List.mem_cons, List.not_mem_nil, or_false] at hp
      rcases hp with rfl | rfl | rfl | rfl <;> exact pos _ (by omega))
    have m1 := hmin (t * w, tc * n) (by simp)
    have m2 := hmin ((n - t) * w, (w - tc) * n) (by simp)
    have m3 := hmin (u * w, uc * n) (by simp)
    have m4 := hmin ((n - u) * w, (w - uc) * n) (by simp)
    dsimp only at m1 m2 m3 m4
    have lam : 0 < p.1 := by
      simp only [List.mem_cons, List.not_mem_nil, or_false] at hp
      rcases hp with rfl | rfl | rfl | rfl <;> exact pos _ (by omega)
    have neg : ∀ x y : Int, 0 < x → y ≤ 0 → 0 ≤ p.1 * (y * n) - p.2 * (x * w) → p.2 ≤ 0 := fun x y hx hy h => by
      by_cases g : p.2 ≤ 0
      · exact g
      · exfalso
        have k1 := Int.mul_pos (show 0 < p.2 by omega) (pos x hx)
        have k2 := Int.mul_nonneg (show 0 ≤ p.1 by omega) (Int.mul_nonneg (show 0 ≤ -y by omega) (show 0 ≤ n by omega))
        rw [Int.neg_mul, Int.mul_neg] at k2
        omega
    have mu : p.2 ≤ 0 := by
      rcases no with h | h | h | h | h
      · omega
      · exact neg t tc (by omega) h m1
      · exact neg (n - t) (w - tc) (by omega) (by omega) m2
      · exact neg u uc (by omega) h m3
      · exact neg (n - u) (w - uc) (by omega) (by omega) m4
    refine ⟨-p.2 * (t * w) + p.1 * (tc * n), -p.2 * (u * w) + p.1 * (uc * n), (-p.2 + p.1) * (n * w), ⟨⟨?_, ?_, ?_, ?_, ?_⟩, ?_⟩, ?_⟩
    · exact Int.mul_pos (by omega) (Int.mul_pos n0 wp)
    · rw [Int.neg_mul]; omega
    · have : (-p.2 + p.1) * (n * w) - (-p.2 * (t * w) + p.1 * (tc * n)) = p.1 * ((w - tc) * n) - p.2 * ((n - t) * w) := by grind
      omega
    · rw [Int.neg_mul]; omega
    · have : (-p.2 + p.1) * (n * w) - (-p.2 * (u * w) + p.1 * (uc * n)) = p.1 * ((w - uc) * n) - p.2 * ((n - u) * w) := by grind
      omega
    · simp only [List.mem_cons, List.not_mem_nil, or_false] at hp
      rcases hp with rfl | rfl | rfl | rfl
      · left; grind
      · right; left; grind
      · right; right; left; grind
      · right; right; right; grind
    · rw [pt_sq, pt_sq, ← ha, ← hb, ← hc, ← hd, ← he]
      generalize dotv A A = h
      have R0 : 0 ≤ (w * t - n * tc) * (w * t - n * tc) * a + (w * u - n * uc) * (w * u - n * uc) * c - 2 * (w * t - n * tc) * (w * u - n * uc) * b := by
        have e1 : (w * t - n * tc) * (w * t - n * tc) * a + (w * u - n * uc) * (w * u - n * uc) * c - 2 * (w * t - n * tc) * (w * u - n * uc) * b = dotv (subv (mulv D (w * t - n * tc)) (mulv E (w * u - n * uc))) (subv (mulv D (w * t - n * tc)) (mulv E (w * u - n * uc))) := by
          rw [ha, hb, hc]
          unfold dotv subv mulv
          dsimp only
          grind
        rw [e1]
        exact dotv_self_nonneg _
      have f0 : 0 ≤ p.1 * p.1 - 2 * p.1 * p.2 := by
        have := Int.mul_nonneg (show 0 ≤ p.1 by omega) (show 0 ≤ p.1 - 2 * p.2 by omega)
        have e1 : p.1 * (p.1 - 2 * p.2) = p.1 * p.1 - 2 * p.1 * p.2 := by grind
        omega
      have all := Int.mul_nonneg (sq_nn n) (Int.mul_nonneg R0 f0)
      have k1 : a * tc - b * uc = -(d * w) := by subst hw htc huc; grind
      have k2 : c * uc - b * tc = e * w := by subst hw htc huc; grind
      have hx : w * w * (n * n * h + t * t * a + u * u * c + 2 * n * t * d - 2 * n * u * e - 2 * t * u * b) = n * n * (w * (w * h + tc * d - uc * e)) + ((w * t - n * tc) * (w * t - n * tc) * a + (w * u - n * uc) * (w * u - n * uc) * c - 2 * (w * t - n * tc) * (w * u - n * uc) * b) := by
        have e1 : d * w = b * uc - a * tc := by omega
        grind
      have hy : ∀ T U N : Int, T = -p.2 * (t * w) + p.1 * (tc * n) → U = -p.2 * (u * w) + p.1 * (uc * n) → N = (-p.2 + p.1) * (n * w) →
          N * N * h + T * T * a + U * U * c + 2 * N * T * d - 2 * N * U * e - 2 * T * U * b = p.2 * p.2 * (w * w * (n * n * h + t * t * a + u * u * c + 2 * n * t * d - 2 * n * u * e - 2 * t * u * b)) + p.1 * p.1 * (n * n * (w * (w * h + tc * d - uc * e))) - 2 * p.2 * p.1 * (n * n * (w * (w * h + tc * d - uc * e))) := by
        intro T U N hT hU hN
        subst hT hU hN
        have e1 : d * w = b * uc - a * tc := by omega
        grind
      rw [hy _ _ _ rfl rfl rfl]
      generalize n * n * h + t * t * a + u * u * c + 2 * n * t * d - 2 * n * u * e - 2 * t * u * b = Fx at *
      generalize w * (w * h + tc * d - uc * e) = S at *
      generalize (w * t - n * tc) * (w * t - n * tc) * a + (w * u - n * uc) * (w * u - n * uc) * c - 2 * (w * t - n * tc) * (w * u - n * uc) * b = R at *
      have fin : Fx * ((-p.2 + p.1) * (n * w) * ((-p.2 + p.1) * (n * w))) - (p.2 * p.2 * (w * w * Fx) + p.1 * p.1 * (n * n * S) - 2 * p.2 * p.1 * (n * n * S)) * (n * n) = n * n * (R * (p.1 * p.1 - 2 * p.1 * p.2)) := by grind
      omega
  · have wz : w = 0 := by omega
    by_cases az : a = 0
    · have D0 : D = (0, 0, 0) := dotv_zero (by rw [← ha]; exact az)
      refine ⟨0, u, n, ⟨⟨n0, Int.le_refl _, by omega, u0, un⟩, .inl rfl⟩, ?_⟩
      have e1 : pt A D E 0 u n = pt A D E t u n := by
        subst D0
        unfold pt addv subv mulv
        simp
      rw [e1]
      exact Int.le_refl _
    · have ap : 0 < a := by omega
      have Z : subv (mulv D b) (mulv E a) = (0, 0, 0) := dotv_zero (by
        have e1 : dotv (subv (mulv D b) (mulv E a)) (subv (mulv D b) (mulv E a)) = a * w := by
          have e2 : dotv (subv (mulv D b) (mulv E a)) (subv (mulv D b) (mulv E a)) = b * b * dotv D D - 2 * a * b * dotv D E + a * a * dotv E E := by
            unfold dotv subv mulv
            dsimp only
            grind
          rw [e2, ← ha, ← hb, ← hc, hw]
          grind
        rw [e1, wz, Int.mul_zero])
      obtain ⟨p, hp, hmin⟩ := least_pair [(t, b), (n - t, -b), (u, a), (n - u, -a)] (by simp) (by
        intro p hp
        simp only [List.mem_cons, List.not_mem_nil, or_false] at hp
        rcases hp with rfl | rfl | rfl | rfl <;> (dsimp only; omega))
      have m1 := hmin (t, b) (by simp)
      have m2 := hmin (n - t, -b) (by simp)
      have m3 := hmin (u, a) (by simp)
      have m4 := hmin (n - u, -a) (by simp)
      dsimp only at m1 m2 m3 m4
      have lam : 0 < p.1 := by
        simp only [List.mem_cons, List.not_mem_nil, or_false] at hp
        rcases hp with rfl | rfl | rfl | rfl <;> (dsimp only; omega)
      have mu : p.2 < 0 := by
        by_cases g : p.2 < 0
        · exact g
        · exfalso
          have k1 := Int.mul_nonneg (show 0 ≤ p.2 by omega) (show 0 ≤ n - u by omega)
          have k2 := Int.mul_pos lam ap
          rw [Int.mul_neg] at m4
          omega
      refine ⟨-p.2 * t + p.1 * b, -p.2 * u + p.1 * a, -p.2 * n, ⟨⟨?_, ?_, ?_, ?_, ?_⟩, ?_⟩, ?_⟩
      · exact Int.mul_pos (by omega) n0
      · rw [Int.neg_mul]; omega
      · have : -p.2 * n - (-p.2 * t + p.1 * b) = p.1 * -b - p.2 * (n - t) := by grind
        omega
      · rw [Int.neg_mul]; omega
      · have : -p.2 * n - (-p.2 * u + p.1 * a) = p.1 * -a - p.2 * (n - u) := by grind
        omega
      · simp only [List.mem_cons, List.not_mem_nil, or_false] at hp
        rcases hp with rfl | rfl | rfl | rfl
        · left; grind
        · right; left; grind
        · right; right; left; grind
        · right; right; right; grind
      · have z1 : D.1 * b = E.1 * a := by
          have := congrArg Prod.fst Z
          simp only [subv, mulv] at this
          omega
        have z2 : D.2.1 * b = E.2.1 * a := by
          have := congrArg (fun v => v.2.1) Z
          simp only [subv, mulv] at this
          omega
        have z3 : D.2.2 * b = E.2.2 * a := by
          have := congrArg (fun v => v.2.2) Z
          simp only [subv, mulv] at this
          omega
        have e1 : pt A D E (-p.2 * t + p.1 * b) (-p.2 * u + p.1 * a) (-p.2 * n) = mulv (pt A D E t u n) (-p.2) := by
          unfold pt addv subv mulv
          refine Prod.ext ?_ (Prod.ext ?_ ?_) <;> (dsimp only; grind)
        have e2 : ∀ (v : V3) (k : Int), dotv (mulv v k) (mulv v k) = k * k * dotv v v := fun v k => by
          unfold dotv mulv
          dsimp only
          grind
        rw [e1, e2]
        generalize dotv (pt A D E t u n) (pt A D E t u n) = F
        have : -p.2 * -p.2 * F * (n * n) = F * (-p.2 * n * (-p.2 * n)) := by grind
        omega

/-! ### the gap of two lines -/
def cgv (A D E : V3) : Option (V3 × Int) :=
  if dotv D D * dotv E E - dotv D E * dotv D E ≤ 0 then none
  else if 0 < dotv D E * dotv E A - dotv E E * dotv D A ∧ dotv D E * dotv E A - dotv E E * dotv D A < dotv D D * dotv E E - dotv D E * dotv D E ∧ 0 < dotv D D * dotv E A - dotv D E * dotv D A ∧ dotv D D * dotv E A - dotv D E * dotv D A < dotv D D * dotv E E - dotv D E * dotv D E then
    some (pt A D E (dotv D E * dotv E A - dotv E E * dotv D A) (dotv D D * dotv E A - dotv D E * dotv D A) (dotv D D * dotv E E - dotv D E * dotv D E), dotv D D * dotv E E - dotv D E * dotv D E)
  else none
def negv (g : V3 × Int) : V3 × Int := (mulv g.1 (-1), g.2)
def lgl (p0 p1 q0 q1 : V3) : List (V3 × Int) :=
  (cgv (subv p0 q0) (subv p1 p0) (subv q1 q0)).toList ++ [pgv p0 q0 q1, pgv p1 q0 q1, negv (pgv q0 p0 p1), negv (pgv q1 p0 p1)]
def shorterv (g k : V3 × Int) : Bool := decide (dotv g.1 g.1 * k.2 * k.2 < dotv k.1 k.1 * g.2 * g.2)
def shortestv (gs : List (V3 × Int)) : V3 × Int := gs.foldl (fun b g => if shorterv g b = true then g else b) (gs.headD ((0, 0, 0), 1))
theorem frac_trans {x y z sx sy sz : Int} (h : 0 < sy) (h1 : x * (sy * sy) ≤ y * (sx * sx)) (h2 : y * (sz * sz) ≤ z * (sy * sy)) : x * (sz * sz) ≤ z * (sx * sx) := by
  have a1 := Int.mul_le_mul_of_nonneg_right h1 (sq_nn sz)
  have a2 := Int.mul_le_mul_of_nonneg_right h2 (sq_nn sx)
  have pos := Int.mul_pos h h
  have e1 : x * (sy * sy) * (sz * sz) = (sy * sy) * (x * (sz * sz)) := by grind
  have e2 : z * (sy * sy) * (sx * sx) = (sy * sy) * (z * (sx * sx)) := by grind
  have e3 : y * (sx * sx) * (sz * sz) = y * (sz * sz) * (sx * sx) := by grind
  exact Int.le_of_mul_le_mul_left (show (sy * sy) * (x * (sz * sz)) ≤ (sy * sy) * (z * (sx * sx)) by omega) pos
theorem fold_short (gs all : List (V3 × Int)) (b : V3 × Int) (hb : b ∈ all) (hg : ∀ g ∈ gs, g ∈ all) (pos : ∀ g ∈ all, 1 ≤ g.2) :
    let r := gs.foldl (fun b g => if shorterv g b = true then g else b) b
    r ∈ all ∧ dotv r.1 r.1 * (b.2 * b.2) ≤ dotv b.1 b.1 * (r.2 * r.2) ∧ ∀ g ∈ gs, dotv r.1 r.1 * (g.2 * g.2) ≤ dotv g.1 g.1 * (r.2 * r.2) := by
  induction gs generalizing b with
  | nil => exact ⟨hb, Int.le_refl _, fun _ h => nomatch h⟩
  | cons g gs ih =>
    intro r
    have gm := hg g List.mem_cons_self
    have key : dotv (if shorterv g b = true then g else b).1 (if shorterv g b = true then g else b).1 * (b.2 * b.2) ≤ dotv b.1 b.1 * ((if shorterv g b = true then g else b).2 * (if shorterv g b = true then g else b).2) ∧ dotv (if shorterv g b = true then g else b).1 (if shorterv g b = true then g else b).1 * (g.2 * g.2) ≤ dotv g.1 g.1 * ((if shorterv g b = true then g else b).2 * (if shorterv g b = true then g else b).2) ∧ (if shorterv g b = true then g else b) ∈ all := by
      by_cases c : shorterv g b = true
      · rw [if_pos c]
        have c := of_decide_eq_true c
        rw [Int.mul_assoc, Int.mul_assoc] at c
        exact ⟨by omega, Int.le_refl _, gm⟩
      · rw [if_neg c]
        have c : ¬ (dotv g.1 g.1 * b.2 * b.2 < dotv b.1 b.1 * g.2 * g.2) := fun h => c (decide_eq_true h)
        rw [Int.mul_assoc, Int.mul_assoc] at c
        exact ⟨Int.le_refl _, by omega, hb⟩
    obtain ⟨k1, k2, k3⟩ := key
    obtain ⟨r1, r2, r3⟩ := ih _ k3 fun x hx => hg x (List.mem_cons_of_mem _ hx)
    have bp := pos _ k3
    refine ⟨r1, frac_trans (by omega) r2 k1, fun x hx => ?_⟩
    rcases List.mem_cons.mp hx with rfl | hx
    · exact frac_trans (by omega) r2 k2
    · exact r3 x hx
theorem shortestv_ok {gs : List (V3 × Int)} (h : gs ≠ []) (pos : ∀ g ∈ gs, 1 ≤ g.2) : shortestv gs ∈ gs ∧ ∀ g ∈ gs, dotv (shortestv gs).1 (shortestv gs).1 * (g.2 * g.2) ≤ dotv g.1 g.1 * ((shortestv gs).2 * (shortestv gs).2) := by
  match gs, h with
  | g :: gs, _ =>
    obtain ⟨a, _, c⟩ := fold_short (g :: gs) (g :: gs) g List.mem_cons_self (fun _ h => h) pos
    exact ⟨a, c⟩
section
variable (p0 p1 q0 q1 : V3)
theorem on_t0 (n k : Int) : on p0 q0 q1 n k = pt (subv p0 q0) (subv p1 p0) (subv q1 q0) 0 k n := by
  unfold on pt subv addv mulv
  refine Prod.ext ?_ (Prod.ext ?_ ?_) <;> (dsimp only; grind)
theorem on_t1 (n k : Int) : on p1 q0 q1 n k = pt (subv p0 q0) (subv p1 p0) (subv q1 q0) n k n := by
  unfold on pt subv addv mulv
  refine Prod.ext ?_ (Prod.ext ?_ ?_) <;> (dsimp only; grind)
theorem on_u0 (n k : Int) : mulv (on q0 p0 p1 n k) (-1) = pt (subv p0 q0) (subv p1 p0) (subv q1 q0) k 0 n := by
  unfold on pt subv addv mulv
  refine Prod.ext ?_ (Prod.ext ?_ ?_) <;> (dsimp only; grind)
theorem on_u1 (n k : Int) : mulv (on q1 p0 p1 n k) (-1) = pt (subv p0 q0) (subv p1 p0) (subv q1 q0) k n n := by
  unfold on pt subv addv mulv
  refine Prod.ext ?_ (Prod.ext ?_ ?_) <;> (dsimp only; grind)
theorem dotv_neg (v : V3) : dotv (mulv v (-1)) (mulv v (-1)) = dotv v v := by
  unfold dotv mulv
  dsimp only
  grind
/-- each gap that is tried is that of two places of the lines -/
theorem lgl_at : ∀ g ∈ lgl p0 p1 q0 q1, 1 ≤ g.2 ∧ ∃ t u, Sq t u g.2 ∧ g.1 = pt (subv p0 q0) (subv p1 p0) (subv q1 q0) t u g.2 := by
  intro g hg
  unfold lgl at hg
  rcases List.mem_append.mp hg with hg | hg
  · unfold cgv at hg
    split at hg
    · cases hg
    · rename_i c0
      split at hg
      · rename_i c
        rw [Option.toList_some, List.mem_singleton] at hg
        subst hg
        exact ⟨by dsimp only; omega, _, _, ⟨by dsimp only; omega, by omega, by dsimp only; omega, by omega, by dsimp only; omega⟩, rfl⟩
      · cases hg
  · simp only [List.mem_cons, List.not_mem_nil, or_false] at hg
    rcases hg with rfl | rfl | rfl | rfl
    · obtain ⟨h1, k, k0, k1, e⟩ := pgv_at p0 q0 q1
      exact ⟨h1, 0, k, ⟨by omega, Int.le_refl _, by omega, k0, k1⟩, by rw [← on_t0]; exact e⟩
    · obtain ⟨h1, k, k0, k1, e⟩ := pgv_at p1 q0 q1
      exact ⟨h1, _, k, ⟨by omega, by omega, Int.le_refl _, k0, k1⟩, by rw [← on_t1]; exact e⟩
    · obtain ⟨h1, k, k0, k1, e⟩ := pgv_at q0 p0 p1
      exact ⟨h1, k, 0, ⟨by show 0 < (pgv q0 p0 p1).2; omega, k0, k1, Int.le_refl _, by show 0 ≤ (pgv q0 p0 p1).2; omega⟩, by rw [← on_u0]; show mulv _ _ = _; rw [e]; rfl⟩
    · obtain ⟨h1, k, k0, k1, e⟩ := pgv_at q1 p0 p1
      exact ⟨h1, k, _, ⟨by show 0 < (pgv q1 p0 p1).2; omega, k0, k1, by show 0 ≤ (pgv q1 p0 p1).2; omega, Int.le_refl _⟩, by rw [← on_u1]; show mulv _ _ = _; rw [e]; rfl⟩
theorem lgl_ne : lgl p0 p1 q0 q1 ≠ [] := by
  unfold lgl
  simp
/-- the gap of the lines: no difference of two places of them is shorter -/
theorem line_least {t u n : Int} (h : Sq t u n) : dotv (shortestv (lgl p0 p1 q0 q1)).1 (shortestv (lgl p0 p1 q0 q1)).1 * (n * n) ≤ dotv (pt (subv p0 q0) (subv p1 p0) (subv q1 q0) t u n) (pt (subv p0 q0) (subv p1 p0) (subv q1 q0) t u n) * ((shortestv (lgl p0 p1 q0 q1)).2 * (shortestv (lgl p0 p1 q0 q1)).2) := by
  obtain ⟨_, least⟩ := shortestv_ok (lgl_ne p0 p1 q0 q1) fun g hg => (lgl_at p0 p1 q0 q1 g hg).1
  generalize shortestv (lgl p0 p1 q0 q1) = r at least ⊢
  have fin : ∀ g ∈ lgl p0 p1 q0 q1, ∀ F m, 0 < m → dotv g.1 g.1 * (m * m) ≤ F * (g.2 * g.2) → dotv r.1 r.1 * (m * m) ≤ F * (r.2 * r.2) := fun g hg F m hm h2 =>
    frac_trans (sy := g.2) (by have := (lgl_at p0 p1 q0 q1 g hg).1; omega) (least g hg) h2
  have border : ∀ t' u' n', Brd t' u' n' → dotv r.1 r.1 * (n' * n') ≤ dotv (pt (subv p0 q0) (subv p1 p0) (subv q1 q0) t' u' n') (pt (subv p0 q0) (subv p1 p0) (subv q1 q0) t' u' n') * (r.2 * r.2) := by
    intro t' u' n' ⟨⟨n0, t0, tn, u0, un⟩, b⟩
    rcases b with rfl | rfl | rfl | rfl
    · exact fin (pgv p0 q0 q1) (by unfold lgl; simp) _ _ n0 (by rw [← on_t0]; exact pgv_least p0 q0 q1 n0 u0 un)
    · exact fin (pgv p1 q0 q1) (by unfold lgl; simp) _ _ n0 (by rw [← on_t1]; exact pgv_least p1 q0 q1 n0 u0 un)
    · exact fin (negv (pgv q0 p0 p1)) (by unfold lgl; simp) _ _ n0 (by rw [← on_u0, dotv_neg]; show dotv (mulv _ _) (mulv _ _) * _ ≤ _; rw [dotv_neg]; exact pgv_least q0 p0 p1 n0 t0 tn)
    · exact fin (negv (pgv q1 p0 p1)) (by unfold lgl; simp) _ _ n0 (by rw [← on_u1, dotv_neg]; show dotv (mulv _ _) (mulv _ _) * _ ≤ _; rw [dotv_neg]; exact pgv_least q1 p0 p1 n0 t0 tn)
  have hA : ∃ A, A = subv p0 q0 := ⟨_, rfl⟩
  have hD : ∃ D, D = subv p1 p0 := ⟨_, rfl⟩
  have hE : ∃ E, E = subv q1 q0 := ⟨_, rfl⟩
  obtain ⟨A, hA⟩ := hA
  obtain ⟨D, hD⟩ := hD
  obtain ⟨E, hE⟩ := hE
  by_cases c : dotv D D * dotv E E - dotv D E * dotv D E ≤ 0 ∨ dotv D E * dotv E A - dotv E E * dotv D A ≤ 0 ∨ dotv D D * dotv E E - dotv D E * dotv D E ≤ dotv D E * dotv E A - dotv E E * dotv D A ∨ dotv D D * dotv E A - dotv D E * dotv D A ≤ 0 ∨ dotv D D * dotv E E - dotv D E * dotv D E ≤ dotv D D * dotv E A - dotv D E * dotv D A
  · obtain ⟨t', u', n', hb, hl⟩ := to_border (A := A) rfl rfl rfl rfl rfl rfl rfl rfl c h
    have b := border t' u' n' hb
    rw [← hA, ← hD, ← hE] at b ⊢
    exact frac_trans (sy := n') hb.1.1 b hl
  · have hc : cgv A D E = some (pt A D E (dotv D E * dotv E A - dotv E E * dotv D A) (dotv D D * dotv E A - dotv D E * dotv D A) (dotv D D * dotv E E - dotv D E * dotv D E), dotv D D * dotv E E - dotv D E * dotv D E) := by
      unfold cgv
      rw [if_neg (by omega), if_pos (by omega)]
    have hm : (pt A D E (dotv D E * dotv E A - dotv E E * dotv D A) (dotv D D * dotv E A - dotv D E * dotv D A) (dotv D D * dotv E E - dotv D E * dotv D E), dotv D D * dotv E E - dotv D E * dotv D E) ∈ lgl p0 p1 q0 q1 := by
      unfold lgl
      rw [← hA, ← hD, ← hE, hc]
      simp
    refine fin _ hm _ _ h.1 ?_
    rw [← hA, ← hD, ← hE]
    dsimp only
    have R0 : 0 ≤ dotv (subv (mulv D ((dotv D D * dotv E E - dotv D E * dotv D E) * t - n * (dotv D E * dotv E A - dotv E E * dotv D A))) (mulv E ((dotv D D * dotv E E - dotv D E * dotv D E) * u - n * (dotv D D * dotv E A - dotv D E * dotv D A)))) (subv (mulv D ((dotv D D * dotv E E - dotv D E * dotv D E) * t - n * (dotv D E * dotv E A - dotv E E * dotv D A))) (mulv E ((dotv D D * dotv E E - dotv D E * dotv D E) * u - n * (dotv D D * dotv E A - dotv D E * dotv D A)))) := dotv_self_nonneg _
    have eR : ∀ x y : Int, dotv (subv (mulv D x) (mulv E y)) (subv (mulv D x) (mulv E y)) = x * x * dotv D D + y * y * dotv E E - 2 * x * y * dotv D E := fun x y => by
      unfold dotv subv mulv
      dsimp only
      grind
    rw [eR] at R0
    rw [pt_sq, pt_sq]
    generalize dotv D D = a at *
    generalize dotv D E = b at *
    clear hc hm
    clear c
    generalize dotv E E = c at *
    generalize dotv D A = d at *
    generalize dotv E A = e at *
    generalize dotv A A = h at *
    have q : ∀ w tc uc : Int, w = a * c - b * b → tc = b * e - c * d → uc = a * e - b * d →
        (n * n * h + t * t * a + u * u * c + 2 * n * t * d - 2 * n * u * e - 2 * t * u * b) * (w * w) = (w * w * h + tc * tc * a + uc * uc * c + 2 * w * tc * d - 2 * w * uc * e - 2 * tc * uc * b) * (n * n) + ((w * t - n * tc) * (w * t - n * tc) * a + (w * u - n * uc) * (w * u - n * uc) * c - 2 * (w * t - n * tc) * (w * u - n * uc) * b) := by
      intro w tc uc h1 h2 h3
      subst h1 h2 h3
      grind
    have := q _ _ _ rfl rfl rfl
    omega
/-- so the gap's vector is at most as far along itself as any difference of ends -/
theorem line_ends {t u : Int} (ht : 0 ≤ t ∧ t ≤ 1) (hu : 0 ≤ u ∧ u ≤ 1) : 0 ≤ dotv (shortestv (lgl p0 p1 q0 q1)).1 (subv (mulv (pt (subv p0 q0) (subv p1 p0) (subv q1 q0) t u 1) (shortestv (lgl p0 p1 q0 q1)).2) (shortestv (lgl p0 p1 q0 q1)).1) := by
  have least := fun t u n h => line_least p0 p1 q0 q1 (t := t) (u := u) (n := n) h
  obtain ⟨s1, T, U, hS, e⟩ := lgl_at p0 p1 q0 q1 _ (shortestv_ok (lgl_ne p0 p1 q0 q1) fun g hg => (lgl_at p0 p1 q0 q1 g hg).1).1
  generalize shortestv (lgl p0 p1 q0 q1) = r at *
  obtain ⟨V, s⟩ := r
  dsimp only at *
  generalize subv p0 q0 = A at *
  generalize subv p1 p0 = D at *
  generalize subv q1 q0 = E at *
  have hX : ∃ X, X = subv (mulv (pt A D E t u 1) s) V := ⟨_, rfl⟩
  obtain ⟨X, hX⟩ := hX
  rw [← hX]
  by_cases g : 0 ≤ dotv V X
  · exact g
  · exfalso
    have x0 := dotv_self_nonneg X
    have hN : ∃ n, n = dotv X X + 1 := ⟨_, rfl⟩
    obtain ⟨n, hN⟩ := hN
    have n1 : 1 ≤ n := by omega
    obtain ⟨h0, h1, h2, h3, h4⟩ := hS
    have sq : Sq ((n - 1) * T + t * s) ((n - 1) * U + u * s) (n * s) := by
      have e1 : n * s - ((n - 1) * T + t * s) = (n - 1) * (s - T) + (1 - t) * s := by grind
      have e2 : n * s - ((n - 1) * U + u * s) = (n - 1) * (s - U) + (1 - u) * s := by grind
      have a1 := Int.mul_nonneg (show 0 ≤ n - 1 by omega) h1
      have a2 := Int.mul_nonneg ht.1 (show 0 ≤ s by omega)
      have a3 := Int.mul_nonneg (show 0 ≤ n - 1 by omega) h3
      have a4 := Int.mul_nonneg hu.1 (show 0 ≤ s by omega)
      have a5 := Int.mul_nonneg (show 0 ≤ n - 1 by omega) (show 0 ≤ s - T by omega)
      have a6 := Int.mul_nonneg (show 0 ≤ 1 - t by omega) (show 0 ≤ s by omega)
      have a7 := Int.mul_nonneg (show 0 ≤ n - 1 by omega) (show 0 ≤ s - U by omega)
      have a8 := Int.mul_nonneg (show 0 ≤ 1 - u by omega) (show 0 ≤ s by omega)
      exact ⟨Int.mul_pos (by omega) (by omega), by omega, by omega, by omega, by omega⟩
    have l := least _ _ _ sq
    have ep : pt A D E ((n - 1) * T + t * s) ((n - 1) * U + u * s) (n * s) = addv (mulv V n) X := by
      rw [hX, e]
      unfold pt subv addv mulv
      refine Prod.ext ?_ (Prod.ext ?_ ?_) <;> (dsimp only; grind)
    have ex : dotv (addv (mulv V n) X) (addv (mulv V n) X) = n * n * dotv V V + 2 * n * dotv V X + dotv X X := by
      unfold dotv addv mulv
      dsimp only
      grind
    rw [ep, ex] at l
    have pos := Int.mul_pos (show 0 < s by omega) (show 0 < s by omega)
    have e3 : dotv V V * (n * s * (n * s)) = (s * s) * (n * n * dotv V V) := by grind
    have e4 : (n * n * dotv V V + 2 * n * dotv V X + dotv X X) * (s * s) = (s * s) * (n * n * dotv V V + 2 * n * dotv V X + dotv X X) := Int.mul_comm _ _
    rw [e3, e4] at l
    have l2 := Int.le_of_mul_le_mul_left l pos
    have l3 := Int.mul_le_mul_of_nonneg_left (show dotv V X ≤ -1 by omega) (show 0 ≤ 2 * n by omega)
    omega
end
end DL

namespace G
open PySem L2 DL
theorem is_int (x : Int) : m__law_is_integer x = some true := rfl
end G

namespace G
open PySem L2 DL
/-! the drawn number and its digits -/
theorem number_ok {ns : List Int} {k : Int} (hb : ∀ z ∈ ns, Builtin.Int.intBits z ≤ 1048576) (hl : ns.length ≤ 63) (hk : 0 ≤ k ∧ k ≤ 1000) : Tot (m__law_number ns k) fun x => Szl x 1048700 := by
  unfold m__law_number
  haveI : Szl k 10 := szl_le (szl_abs_of (B := 1000) (by omega)) (by decide)
  refine t_lt (t_bind (P := fun c => Szl c 1048576) (tot_ite (fun h => ?_) fun _ => tot_some ⟨by decide⟩) fun c hc => ?_)
  · have h := of_decide_eq_true h
    obtain ⟨x, e, m, _⟩ := atC_get (xs := ns) hk.1 h
    exact t_eq e (tot_some ⟨lg_bits (hb x m)⟩)
  haveI := hc
  refine t_bind (P := fun c => Szl c 1048600) (tot_ite (fun _ => t_mul (t_lt (tot_some ?_))) fun _ => tot_some (szl_le hc (by decide))) fun c hc => ?_
  · exact szl_le (inferInstance : Szl (1 - 2 * c) _) (by decide)
  haveI := hc
  refine tot_ite (fun _ => tot_some (szl_le hc (by decide))) fun _ => ?_
  refine t_mul (t_mul (t_mod (by decide) fun y _ _ _ hy => t_mul (t_mul (t_mod (by decide) fun z _ _ _ hz => ?_))))
  haveI := hy; haveI := hz
  exact t_mul (tot_some (szl_le (inferInstance : Szl (y * 2147483399 + z) _) (by decide)))
def Dg (s : List Int) : Prop := ∃ n, s = [n]
theorem digits_ok {ns : List Int} {k c : Int} (hb : ∀ z ∈ ns, Builtin.Int.intBits z ≤ 1048576) (hl : ns.length ≤ 63) (hk : 0 ≤ k ∧ k ≤ 900) (hc : 0 ≤ c ∧ c ≤ 60) : Tot (m__law_digits ns k c) Dg := by
  unfold m__law_digits
  refine t_lt (tot_rng (by omega) (t_bind (P := fun _ => True) (tot_imp (tot_forLi (W := fun i (s : Int) => i ≤ 60 → Szl s (1100000 * i + 10)) (fun _ => ⟨by decide⟩) fun i j s hj hs => ?_) fun _ _ => trivial) fun s _ => tot_some ⟨s, rfl⟩))
  obtain ⟨ej, hj2⟩ := rng_get hj
  have hi : i < 60 := by
    have := (List.getElem?_eq_some_iff.mp hj).1
    rw [rng_len] at this
    omega
  haveI := hs (by omega)
  obtain ⟨x, ex, hx⟩ := number_ok (k := k + c - 1 - j) hb hl (by omega)
  haveI := hx
  refine tot_mul ?_ (t_eq ex (t_lt (tot_some fun _ => ?_)))
  · have := (hs (by omega)).le
    have : lg (4611686018427387904 : Int) ≤ 63 := by decide
    omega
  · have a := (hs (by omega)).le
    have b : lg (4611686018427387904 : Int) ≤ 63 := by decide
    have c := lg_mul s 4611686018427387904
    have d := hx.le
    have e := lg_add (s * 4611686018427387904) x
    exact ⟨by omega⟩
theorem dig {ds : List Int} {many : Int} (hd : Dg ds) (h : 0 < many) (h2 : many ≤ 1000000) : Tot (m__law_digit ds many) fun r => (0 ≤ r.1 ∧ r.1 < many) ∧ Dg r.2 := by
  obtain ⟨n, rfl⟩ := hd
  haveI : Szl many 20 := szl_le (szl_abs_of (B := 1000000) (by omega)) (by decide)
  unfold m__law_digit
  exact t_eq (x := n) rfl (t_mod h fun x _ x0 x1 _ => t_eq (x := n) rfl (t_div h (t_eq (x := [n / many]) rfl (tot_some ⟨⟨x0, x1⟩, _, rfl⟩)) (by decide)))
theorem shD_mono {n : Nat} {d : Dt} (h : shD n d = true) : shD (n + 1) d = true := by
  induction n generalizing d with
  | zero =>
    cases d with
    | tup xs => unfold shD at h; cases h
    | lst xs => unfold shD at h; cases h
    | str s => unfold shD at h ⊢; exact h
    | _ => first | rfl | (unfold shD at h; cases h)
  | succ n ih =>
    cases d with
    | tup xs =>
      unfold shD at h ⊢
      exact List.all_eq_true.mpr fun x hx => ih (List.all_eq_true.mp h x hx)
    | lst xs =>
      unfold shD at h ⊢
      exact List.all_eq_true.mpr fun x hx => ih (List.all_eq_true.mp h x hx)
    | _ => first | exact h | (unfold shD at h; cases h)
theorem shD_le {m n : Nat} {d : Dt} (h : shD m d = true) (k : m ≤ n) : shD n d = true := by
  induction n with
  | zero => rwa [show (0 : Nat) = m by omega]
  | succ n ih =>
    by_cases c : m = n + 1
    · rwa [← c]
    · exact shD_mono (ih (by omega))
theorem eqDC_same {n : Nat} {x : Dt} (h : shD n x = true) (k : n ≤ 64) : eqDC x x = some true := by
  have h := shD_le h k
  unfold eqDC
  rw [h, if_pos (by rfl)]
  exact congrArg some (eqD_self x)

section
variable {fl : List Stp} {n : Nat}
def menu : List Str := ["a", "b2", "c_", "move_", "x", "abcdefghijklmnopqrst"]
def univ : List Stp := (List.range 32).map (fun (i : Nat) => Stp.w_jump (i : Int)) ++ (menu.flatMap fun s => (List.range 32).map fun (i : Nat) => Stp.w_if s (i : Int)) ++ (menu.flatMap fun s => [Stp.w_set s true, .w_set s false, .w_wait s true, .w_wait s false, .w_hold (some s), .w_move s]) ++ [.w_hold none]
def fineB (x : Stp) : Bool := shD 2 (d_Stp x) && (pd (d_Stp x)).showable && !(pd (d_Stp x)).hasDict && decide ((pd (d_Stp x)).depth ≤ 2) && decide ((pd (d_Stp x)).shown.length ≤ 100)
theorem univ_fine : ∀ x ∈ univ, fineB x = true := by decide +kernel
theorem mem_int {i : Int} (h : 0 ≤ i ∧ i < 32) : ∃ k ∈ List.range 32, (k : Int) = i := ⟨i.toNat, List.mem_range.mpr (by omega), by omega⟩
theorem u_jump {i : Int} (h : 0 ≤ i ∧ i < 32) : Stp.w_jump i ∈ univ := by
  obtain ⟨k, m, rfl⟩ := mem_int h
  exact List.mem_append_left _ (List.mem_append_left _ (List.mem_append_left _ (List.mem_map.mpr ⟨k, m, rfl⟩)))
theorem u_if {s : Str} {i : Int} (hs : s ∈ menu) (h : 0 ≤ i ∧ i < 32) : Stp.w_if s i ∈ univ := by
  obtain ⟨k, m, rfl⟩ := mem_int h
  exact List.mem_append_left _ (List.mem_append_left _ (List.mem_append_right _ (List.mem_flatMap.mpr ⟨s, hs, List.mem_map.mpr ⟨k, m, rfl⟩⟩)))
theorem u_name {s : Str} {x : Stp} (hs : s ∈ menu) (h : x ∈ [Stp.w_set s true, .w_set s false, .w_wait s true, .w_wait s false, .w_hold (some s), .w_move s]) : x ∈ univ := List.mem_append_left _ (List.mem_append_right _ (List.mem_flatMap.mpr ⟨s, hs, h⟩))
theorem u_none : Stp.w_hold none ∈ univ := List.mem_append_right _ (List.mem_singleton.mpr rfl)
/- a flow that is drawn -/
structure Fw (n : Nat) (fl : List Stp) : Prop where
  u : ∀ x ∈ fl, x ∈ univ
  j : ∀ (i : Nat) (t : Int), fl[i]? = some (.w_jump t) → (i : Int) < t ∧ t ≤ n
  m : ∀ x ∈ fl, ∀ s, Stp.at1O x = some (some s) → s ∈ menu
theorem step_ok {ds : List Int} {i : Int} (hd : Dg ds) (h : 0 ≤ i ∧ i < n) (hn : n ≤ 30) : Tot (m__law_step ds i n) fun r => r.1 ∈ univ ∧ (∀ t, r.1 = .w_jump t → i < t ∧ t ≤ n) ∧ ∀ s, Stp.at1O r.1 = some (some s) → s ∈ menu := by
  unfold m__law_step
  refine t_bind (dig hd (by decide) (by decide)) fun a ⟨a1, hd⟩ => t_at a1.1 (by exact a1.2) fun nm mm _ => t_bind (dig hd (by decide) (by decide)) fun b ⟨b1, hd⟩ => t_bind (dig hd (by omega) (by omega)) fun c ⟨c1, hd⟩ => ?_
  have nm' : nm ∈ menu := mm
  refine tot_ite (fun _ => tot_some ⟨u_jump (by omega), fun t e => by cases e; omega, fun s e => by cases e⟩) fun _ => tot_ite (fun _ => tot_some ⟨u_if nm' (by omega), (fun t e => by cases e), fun s e => by cases e; exact nm'⟩) fun _ => tot_ite (fun _ => t_bind (dig hd (by decide) (by decide)) fun d ⟨_, _⟩ => tot_some ⟨u_name nm' (by cases decide (d.1 = 1) <;> simp), (fun t e => by cases e), fun s e => by cases e; exact nm'⟩) fun _ => tot_ite (fun _ => t_bind (dig hd (by decide) (by decide)) fun d ⟨_, _⟩ => tot_some ⟨u_name nm' (by cases decide (d.1 = 1) <;> simp), (fun t e => by cases e), fun s e => by cases e; exact nm'⟩) fun _ => tot_ite (fun _ => tot_some ⟨u_none, (fun t e => by cases e), fun s e => by cases e⟩) fun _ => tot_ite (fun _ => tot_some ⟨u_name nm' (by simp), (fun t e => by cases e), fun s e => by cases e; exact nm'⟩) fun _ => tot_some ⟨u_name nm' (by simp), (fun t e => by cases e), fun s e => by cases e; exact nm'⟩
/- repr of the flow -/
theorem pds_len : ∀ xs : List Dt, (pds xs).length = xs.length
  | [] => rfl
  | x :: xs => congrArg (· + 1) (pds_len xs)
theorem all_fine : ∀ {fl : List Stp}, (∀ x ∈ fl, fineB x = true) → PyData.showableAll (pds (fl.map d_Stp)) = true ∧ PyData.hasDictAll (pds (fl.map d_Stp)) = false ∧ PyData.depthAll (pds (fl.map d_Stp)) ≤ 2 ∧ ((PyData.shownAll (pds (fl.map d_Stp))).map (·.length)).sum ≤ 100 * fl.length
  | [], _ => ⟨rfl, rfl, Nat.zero_le _, Nat.zero_le _⟩
  | x :: fl, h => by
    obtain ⟨h1, h2, h3, h4⟩ := all_fine (fl := fl) fun y m => h y (List.mem_cons_of_mem _ m)
    have g := h x (List.mem_cons_self ..)
    unfold fineB at g
    rw [Bool.and_eq_true, Bool.and_eq_true, Bool.and_eq_true, Bool.and_eq_true] at g
    obtain ⟨⟨⟨⟨_, g2⟩, g3⟩, g4⟩, g5⟩ := g
    have g4 := of_decide_eq_true g4
    have g5 := of_decide_eq_true g5
    have g3 : (pd (d_Stp x)).hasDict = false := by
      cases q : (pd (d_Stp x)).hasDict with
      | false => rfl
      | true => rw [q] at g3; cases g3
    refine ⟨?_, ?_, ?_, ?_⟩
    · show PyData.showableAll (pd (d_Stp x) :: pds (fl.map d_Stp)) = true
      simp only [PyData.showableAll, g2, h1, Bool.and_self]
    · show PyData.hasDictAll (pd (d_Stp x) :: pds (fl.map d_Stp)) = false
      simp only [PyData.hasDictAll, g3, h2, Bool.or_self]
    · show PyData.depthAll (pd (d_Stp x) :: pds (fl.map d_Stp)) ≤ 2
      simp only [PyData.depthAll]
      omega
    · show ((PyData.shownAll (pd (d_Stp x) :: pds (fl.map d_Stp))).map (·.length)).sum ≤ 100 * (fl.length + 1)
      simp only [PyData.shownAll, List.map_cons, List.sum_cons]
      omega
theorem shown_sz : ∀ xs : List PyData, (PyData.shownAll xs).length = xs.length
  | [] => by simp only [PyData.shownAll, List.length_nil]
  | x :: xs => by simp only [PyData.shownAll, List.length_cons, shown_sz xs]
theorem repr_ok (h : ∀ x ∈ fl, x ∈ univ) (hl : fl.length ≤ 31) : ∃ z, reprC (.lst (fl.map d_Stp)) = some z := by
  have g := fun x m => univ_fine x (h x m)
  obtain ⟨h1, h2, h3, h4⟩ := all_fine g
  refine ⟨_, if_pos ⟨?_, ?_, ?_, ?_, ?_⟩⟩
  · show (fl.map d_Stp).all (shD 59) = true
    rw [List.all_eq_true]
    intro y my
    obtain ⟨x, mx, rfl⟩ := List.mem_map.mp my
    have g := g x mx
    unfold fineB at g
    rw [Bool.and_eq_true, Bool.and_eq_true, Bool.and_eq_true, Bool.and_eq_true] at g
    exact shD_le g.1.1.1.1 (by decide)
  · show PyData.showable (.list (pds (fl.map d_Stp))) = true
    simp only [PyData.showable, h1]
  · show PyData.hasDict (.list (pds (fl.map d_Stp))) = false
    simp only [PyData.hasDict, h2]
  · show PyData.depth (.list (pds (fl.map d_Stp))) ≤ 60
    simp only [PyData.depth]
    omega
  · show (PyData.shown (.list (pds (fl.map d_Stp)))).length ≤ sizeLine
    simp only [PyData.shown]
    have a := listText_len_le (PyData.shownAll (pds (fl.map d_Stp)))
    rw [shown_sz, pds_len, List.length_map] at a
    have b : (10000 : Nat) ≤ sizeLine := by decide
    omega
/- landing -/
def nxt (fl : List Stp) (i : Int) : Int := match fl[i.toNat]? with
  | some (.w_jump t) => if i < fl.length then t else i
  | _ => i
def it (fl : List Stp) : Nat → Int → Int
  | 0, i => i
  | k + 1, i => it fl k (nxt fl i)
theorem nxt_rng (F : Fw fl.length fl) {i : Int} (h : 0 ≤ i ∧ i ≤ fl.length) : 0 ≤ nxt fl i ∧ nxt fl i ≤ fl.length := by
  unfold nxt
  split
  · rename_i t e
    split
    · have := F.j _ t e
      omega
    · exact h
  · exact h
theorem it_fix {i : Int} (h : nxt fl i = i) : ∀ k, it fl k i = i
  | 0 => rfl
  | k + 1 => by show it fl k (nxt fl i) = i; rw [h]; exact it_fix h k
theorem cond_ok {i : Int} (h : 0 ≤ i ∧ i ≤ fl.length) : ∃ b, ((if (decide (i < (fl.length : Int))) = true then (atC fl i).bind fun t2 => some (decide (t2.word = ("jump" : Str))) else some false).bind fun b3 => some b3) = some b ∧ (b = false → nxt fl i = i) ∧ (b = true → ∃ t, atC fl i = some (.w_jump t) ∧ fl[i.toNat]? = some (.w_jump t) ∧ nxt fl i = t) := by
  by_cases c : i < fl.length
  · obtain ⟨x, e, _, e2⟩ := atC_get (xs := fl) h.1 c
    rw [if_pos (decide_eq_true c), e]
    refine ⟨_, rfl, fun hb => ?_, fun hb => ?_⟩
    · unfold nxt
      rw [e2]
      cases x with
      | w_jump t => cases hb
      | _ => rfl
    · cases x with
      | w_jump t => exact ⟨t, rfl, e2, by unfold nxt; rw [e2]; exact if_pos c⟩
      | _ => exact absurd (of_decide_eq_true hb) (by simp only [Stp.word]; decide)
  · rw [if_neg (by simpa using c)]
    refine ⟨_, rfl, fun _ => ?_, fun z => by cases z⟩
    unfold nxt
    rw [List.getElem?_eq_none (by omega)]
theorem while_ok (F : Fw fl.length fl) : ∀ (n k : Nat) (i : Int), (0 ≤ i ∧ i ≤ fl.length) → (fl.length : Int) - i < n → (fl.length : Int) - i ≤ k → whileF (R := Int) n (i : Int) (fun s1 => (if (decide (s1 < (fl.length : Int))) = true then (atC fl s1).bind fun t2 => some (decide (t2.word = ("jump" : Str))) else some false).bind fun b3 => some b3) (fun s1 =>
(atC fl s1).bind fun t4 =>
(Stp.at1I t4).bind fun t5 =>
some (.nx t5)) = some (.nx (it fl k i))
  | 0, k, i, h, h1, _ => by omega
  | n + 1, k, i, h, h1, h2 => by
    obtain ⟨b, e, f1, f2⟩ := cond_ok h
    rw [whileF]
    rw [e]
    cases b with
    | false => rw [it_fix (f1 rfl)]; rfl
    | true =>
      obtain ⟨t, e1, e2, e3⟩ := f2 rfl
      have j := F.j _ t e2
      have ht : i < t := by omega
      have r := nxt_rng F h
      rw [e3] at r
      show ((Option.bind (atC fl i) _).bind _) = _
      rw [e1]
      have k0 : ∃ k', k = k' + 1 := ⟨k - 1, by omega⟩
      obtain ⟨k', rfl⟩ := k0
      show whileF n t _ _ = _
      rw [while_ok F n k' t r (by omega) (by omega)]
      show _ = some (Fl.nx (it fl k' (nxt fl i)))
      rw [e3]
theorem loop_ok (F : Fw fl.length fl) {f : Int → Int → Option Int} (hf : ∀ x i : Int, (0 ≤ i ∧ i ≤ fl.length) → f x i = some (nxt fl i)) : ∀ (xs : List Int) (i : Int), (0 ≤ i ∧ i ≤ fl.length) → forL xs i f = some (it fl xs.length i)
  | [], i, _ => rfl
  | x :: xs, i, h => by
    show (f x i).bind (fun s => forL xs s f) = _
    rw [hf x i h]
    exact loop_ok F hf xs _ (nxt_rng F h)
theorem land_same (F : Fw fl.length fl) (hl : fl.length ≤ 31) {i : Int} (h : 0 ≤ i ∧ i ≤ fl.length) : ∃ v, m_landing fl i = some v ∧ m__law_landing fl i = some v := by
  refine ⟨it fl (fl.length + 1) i, ?_, ?_⟩
  · unfold m_landing
    rw [while_ok F 1000000 (fl.length + 1) i h (by omega) (by omega)]
    rfl
  · unfold m__law_landing
    refine eq_of (tot_rng (by omega) ?_)
    rw [loop_ok F (fun x s hs => ?_) _ i h]
    · rw [rng_len]
      refine tot_some (congrArg (fun k => it fl k i) (by omega))
    · obtain ⟨b, e, f1, f2⟩ := cond_ok hs
      obtain ⟨c, ec, hc⟩ : ∃ c, (if (decide (s < (fl.length : Int))) = true then (atC fl s).bind fun t2 => some (decide (t2.word = ("jump" : Str))) else some false) = some c ∧ c = b := by
        cases q : (if (decide (s < (fl.length : Int))) = true then (atC fl s).bind fun t2 => some (decide (t2.word = ("jump" : Str))) else some false) with
        | none => rw [q] at e; cases e
        | some c => rw [q] at e; exact ⟨c, rfl, Option.some.inj e⟩
      subst hc
      refine eq_of (t_eq ec ?_)
      cases c with
      | false => exact t_bind (P := fun v => v = nxt fl s) (t_no rfl (tot_some (f1 rfl).symm)) fun v h => tot_some h
      | true =>
        obtain ⟨t, e1, e2, e3⟩ := f2 rfl
        exact t_bind (P := fun v => v = nxt fl s) (t_yes rfl (t_eq e1 (t_eq (x := t) rfl (tot_some e3.symm)))) fun v h => tot_some h
/- names -/
theorem names_tot {w : Str} {g : Stp → List Str → Option (List Str)} (hg : ∀ x s, g x s = (if (decide (x.word = w)) = true then (Stp.at1O x).bind fun t4 => (if (!t4.isNone) = true then (Stp.at1O x).bind fun t5 => (t5).bind fun o6 => some (!(decide (o6 ∈ s))) else some false).bind fun b7 => some b7 else some false).bind fun b8 =>
(if b8 = true then
(Stp.at1O x).bind fun t9 =>
(t9).bind fun o10 =>
(appC s o10).bind fun names11 =>
some (names11 : (List Str))
else
some (s : (List Str))).bind fun (s12 : (List Str)) =>
some (s12 : (List Str))) (hw : ∀ x : Stp, x.word = w → ∃ o, Stp.at1O x = some o) (F : Fw fl.length fl) (hl : fl.length ≤ 31) : Tot (forL fl ([] : List Str) g) fun r => ∀ y ∈ r, y ∈ menu := by
  refine tot_imp (tot_forLi (W := fun i (s : List Str) => s.length ≤ i ∧ ∀ y ∈ s, y ∈ menu) ⟨Nat.le_refl _, fun y m => by cases m⟩ fun i x s hx ⟨s1, s2⟩ => ?_) fun r h => h.2
  have hi : i < fl.length := (List.getElem?_eq_some_iff.mp hx).1
  have mx := List.mem_of_getElem? hx
  rw [hg]
  refine t_bind (P := fun b => b = true → ∃ s0, Stp.at1O x = some (some s0)) (tot_ite (fun c => ?_) fun _ => tot_some fun z => by cases z) fun b hb => t_bind (P := fun s : List Str => s.length ≤ i + 1 ∧ ∀ y ∈ s, y ∈ menu) (tot_ite (fun c => ?_) fun _ => tot_some ⟨by omega, s2⟩) fun s h => tot_some h
  · obtain ⟨o, e⟩ := hw x (of_decide_eq_true c)
    refine t_eq e (t_bind (P := fun b => b = true → ∃ s0, Stp.at1O x = some (some s0)) ?_ fun b hb => tot_some hb)
    cases o with
    | none => exact t_no rfl (tot_some fun z => by cases z)
    | some s0 => exact t_yes rfl (t_eq e (t_eq (x := s0) rfl (tot_some fun _ => ⟨s0, e⟩)))
  · obtain ⟨s0, e⟩ := hb c
    refine t_eq e (t_eq (x := s0) rfl (t_eq (appC_eq (by omega)) (tot_some ⟨by rw [List.length_append]; show s.length + 1 ≤ _; omega, fun y m => ?_⟩)))
    rcases List.mem_append.mp m with m | m
    · exact s2 y m
    · rw [List.mem_singleton.mp m]; exact F.m x mx s0 e
theorem sh_menu : ∀ y ∈ menu, shD 0 (.str y) = true := by decide +kernel
theorem eq_names {r : List Str} (h : ∀ y ∈ r, y ∈ menu) : eqDC ((dL Dt.str) r) ((dL Dt.str) r) = some true := by
  refine eqDC_same (n := 1) ?_ (by decide)
  show (r.map Dt.str).all (shD 0) = true
  rw [List.all_eq_true]
  intro d m
  obtain ⟨y, my, rfl⟩ := List.mem_map.mp m
  exact sh_menu y (h y my)
theorem names_move : ∀ x : Stp, x.word = ("move" : Str) → ∃ o, Stp.at1O x = some o := fun x h => by cases x <;> first | exact ⟨_, rfl⟩ | (simp only [Stp.word] at h; exact absurd h (by decide))
theorem names_set : ∀ x : Stp, x.word = ("set" : Str) → ∃ o, Stp.at1O x = some o := fun x h => by cases x <;> first | exact ⟨_, rfl⟩ | (simp only [Stp.word] at h; exact absurd h (by decide))
theorem names_hold : ∀ x : Stp, x.word = ("hold" : Str) → ∃ o, Stp.at1O x = some o := fun x h => by cases x <;> first | exact ⟨_, rfl⟩ | (simp only [Stp.word] at h; exact absurd h (by decide))
theorem points_ok (F : Fw fl.length fl) (hl : fl.length ≤ 31) : ∃ r, m_points_of fl = some r ∧ m__law_each fl () = some r ∧ ∀ y ∈ r, y ∈ menu := by
  obtain ⟨r, e, h⟩ := names_tot (w := ("move" : Str)) (fun _ _ => rfl) names_move F hl
  refine ⟨r, ?_, ?_, h⟩
  · unfold m_points_of m_names_in
    exact eq_of (t_bind (P := fun z => z = r) (t_lt (t_eq e (tot_some rfl))) fun z hz => tot_some hz)
  · unfold m__law_each
    exact eq_of (t_lt (t_eq e (tot_some rfl)))
theorem signals_ok (F : Fw fl.length fl) (hl : fl.length ≤ 31) : ∃ r, m_signals_of fl = some r ∧ m__law_each_2 fl () = some r ∧ ∀ y ∈ r, y ∈ menu := by
  obtain ⟨r, e, h⟩ := names_tot (w := ("set" : Str)) (fun _ _ => rfl) names_set F hl
  refine ⟨r, ?_, ?_, h⟩
  · unfold m_signals_of m_names_in_2
    exact eq_of (t_bind (P := fun z => z = r) (t_lt (t_eq e (tot_some rfl))) fun z hz => tot_some hz)
  · unfold m__law_each_2
    exact eq_of (t_lt (t_eq e (tot_some rfl)))
theorem parts_ok (F : Fw fl.length fl) (hl : fl.length ≤ 31) : ∃ r, m_parts_of fl = some r ∧ m__law_each_3 fl () = some r ∧ ∀ y ∈ r, y ∈ menu := by
  obtain ⟨r, e, h⟩ := names_tot (w := ("hold" : Str)) (fun _ _ => rfl) names_hold F hl
  refine ⟨r, ?_, ?_, h⟩
  · unfold m_parts_of m_names_in_3
    exact eq_of (t_bind (P := fun z => z = r) (t_lt (t_eq e (tot_some rfl))) fun z hz => tot_some hz)
  · unfold m__law_each_3
    exact eq_of (t_lt (t_eq e (tot_some rfl)))
end
theorem law_true (ns : List Int) (hl : ns.length ≤ 63) (hb : ∀ z ∈ ns, Builtin.Int.intBits z ≤ 1048576) : m_law ns = some true := by
  unfold m_law
  refine tot_true (t_bind (number_ok hb hl (by decide)) fun c hc => ?_)
  haveI := hc
  refine tot_mod (by decide) fun n0 n1 => ?_
  generalize hN : c % 31 = N at *
  refine t_lt (tot_rng (by omega) (t_bind (P := fun fl : List Stp => fl.length = N.toNat ∧ Fw N.toNat fl) ?_ fun fl ⟨l, F⟩ => ?_))
  · refine tot_imp (tot_forLi (W := fun i (s : List Stp) => s.length = i ∧ Fw N.toNat s) ⟨rfl, (fun x m => by cases m), (fun i t e => by cases e), fun x m => by cases m⟩ fun i x s hx ⟨s1, F⟩ => ?_) fun s h => by
      rw [rng_len] at h
      exact ⟨by rw [h.1]; omega, h.2⟩
    obtain ⟨ex, hi⟩ := rng_get hx
    refine t_bind (digits_ok hb hl (by omega) (by decide)) fun ds hd => ?_
    have sk := step_ok (n := N.toNat) (i := x) hd (by omega) (by omega)
    rw [show ((N.toNat : Nat) : Int) = N by omega] at sk
    refine t_bind sk fun r ⟨r1, r2, r3⟩ => t_eq (appC_eq (by omega)) (tot_some ⟨by rw [List.length_append]; show s.length + 1 = _; omega, fun y m => ?_, fun k t e => ?_, fun y m s' e => ?_⟩)
    · rcases List.mem_append.mp m with m | m
      · exact F.u y m
      · rw [List.mem_singleton.mp m]; exact r1
    · by_cases c : k < s.length
      · rw [List.getElem?_append_left c] at e
        exact F.j k t e
      · rw [List.getElem?_append_right (by omega)] at e
        have k0 : k - s.length = 0 := by
          cases q : k - s.length with
          | zero => rfl
          | succ z => rw [q] at e; cases e
        rw [k0] at e
        have := r2 t (Option.some.inj e)
        omega
    · rcases List.mem_append.mp m with m | m
      · exact F.m y m s' e
      · rw [List.mem_singleton.mp m] at e; exact r3 s' e
  have F : Fw fl.length fl := by rw [l]; exact F
  have hl31 : fl.length ≤ 31 := by omega
  obtain ⟨z, ez⟩ := repr_ok F.u hl31
  refine t_eq ez (tot_rng (by omega) (tot_thenF (W := fun _ => True) (tot_forF trivial fun i s m _ => ?_) fun _ _ => ?_))
  · obtain ⟨i0, i1⟩ := mem_rng.mp m
    obtain ⟨v, e1, e2⟩ := land_same F hl31 (i := i) (by omega)
    exact t_eq e1 (t_eq (x := true) rfl (t_bind (P := fun b => b = false) (t_no rfl (t_eq e2 (tot_some (by rw [decide_eq_true rfl]; rfl)))) fun b e => t_no e (tot_some ⟨_, rfl, trivial⟩)))
  · obtain ⟨r, a1, a2, a3⟩ := points_ok F hl31
    obtain ⟨r', b1, b2, b3⟩ := signals_ok F hl31
    obtain ⟨r'', c1, c2, c3⟩ := parts_ok F hl31
    refine t_eq a1 (t_eq a2 (t_eq (eq_names a3) (t_bind (P := fun b => b = false) (t_no rfl (t_eq b1 (t_eq b2 (t_eq (eq_names b3) (tot_some rfl))))) fun b e => t_no e ?_)))
    refine t_eq c1 (t_eq c2 (t_eq (eq_names c3) (t_bind (P := fun b => b = true) (t_yes rfl (t_eq ez (tot_some (decide_eq_true rfl)))) fun b e => tot_some e)))
end G

namespace G
open PySem L2 DL PyProof.Rows
def topS (i : Nat) : Stmt := PySem.Challenge.pw_armwarrant_k59_names_and_landings_in_flo.main.body.getD i (.Pass ⟨0, 0, 0, 0⟩)
structure Ads where
  f__law_number : Addr
  d__law_number : FuncData
  f__law_digits : Addr
  d__law_digits : FuncData
  f__law_digit : Addr
  d__law_digit : FuncData
  f__law_step : Addr
  d__law_step : FuncData
  f_landing : Addr
  d_landing : FuncData
  f__law_is_integer : Addr
  d__law_is_integer : FuncData
  f__law_landing : Addr
  d__law_landing : FuncData
  f_names_in : Addr
  d_names_in : FuncData
  f_points_of : Addr
  d_points_of : FuncData
  f__law_each : Addr
  d__law_each : FuncData
  f_signals_of : Addr
  d_signals_of : FuncData
  f_parts_of : Addr
  d_parts_of : FuncData
  f_law : Addr
  d_law : FuncData
structure Top (K : PySem.W.Frag) (mg : Str → Option Value) (A : Ads) : Prop where
  F__law_number : Fun K "_law_number" "_law_number" (topS 7) A.f__law_number A.d__law_number
  g__law_number : mg "_law_number" = some (.ref A.f__law_number)
  F__law_digits : Fun K "_law_digits" "_law_digits" (topS 8) A.f__law_digits A.d__law_digits
  g__law_digits : mg "_law_digits" = some (.ref A.f__law_digits)
  F__law_digit : Fun K "_law_digit" "_law_digit" (topS 9) A.f__law_digit A.d__law_digit
  g__law_digit : mg "_law_digit" = some (.ref A.f__law_digit)
  F__law_step : Fun K "_law_step" "_law_step" (topS 11) A.f__law_step A.d__law_step
  g__law_step : mg "_law_step" = some (.ref A.f__law_step)
  F_landing : Fun K "landing" "landing" (topS 1) A.f_landing A.d_landing
  g_landing : mg "landing" = some (.ref A.f_landing)
  F__law_is_integer : Fun K "_law_is_integer" "_law_is_integer" (topS 10) A.f__law_is_integer A.d__law_is_integer
  g__law_is_integer : mg "_law_is_integer" = some (.ref A.f__law_is_integer)
  F__law_landing : Fun K "_law_landing" "_law_landing" (topS 12) A.f__law_landing A.d__law_landing
  g__law_landing : mg "_law_landing" = some (.ref A.f__law_landing)
  F_names_in : Fun K "names_in" "names_in" (topS 2) A.f_names_in A.d_names_in
  g_names_in : mg "names_in" = some (.ref A.f_names_in)
  F_points_of : Fun K "points_of" "points_of" (topS 3) A.f_points_of A.d_points_of
  g_points_of : mg "points_of" = some (.ref A.f_points_of)
  F__law_each : Fun K "_law_each" "_law_each" (topS 13) A.f__law_each A.d__law_each
  g__law_each : mg "_law_each" = some (.ref A.f__law_each)
  F_signals_of : Fun K "signals_of" "signals_of" (topS 4) A.f_signals_of A.d_signals_of
  g_signals_of : mg "signals_of" = some (.ref A.f_signals_of)
  F_parts_of : Fun K "parts_of" "parts_of" (topS 5) A.f_parts_of A.d_parts_of
  g_parts_of : mg "parts_of" = some (.ref A.f_parts_of)
  F_law : Fun K "law" "law" (topS 14) A.f_law A.d_law
  g_law : mg "law" = some (.ref A.f_law)
  z_bool : mg "bool" = none
  z_int : mg "int" = none
  z_isinstance : mg "isinstance" = none
  z_len : mg "len" = none
  z_range : mg "range" = none
  z_repr : mg "repr" = none
variable {P : PySem.Program} {w : World} {K : PySem.W.Frag} {mg : Str → Option Value} {base : Heap} {A : Ads}
theorem sc__law_number : FnScope ["_law_script", "_law_k", "_law_cell", "_law_mixed", "_law_again"] ["_law_script", "_law_k"] (defScope (topS 7)) := ⟨rfl, rfl, rfl, by decide +kernel, rfl, by decide +kernel, by decide +kernel⟩
theorem b__law_number (T : Top K mg A) : Binds K A.d__law_number ["_law_script", "_law_k"] [] := T.F__law_number.binds (ps := ["_law_script", "_law_k"]) fun _ _ _ _ _ _ us hl => match us, hl with | [_, _], _ => rfl
def P__law_number (A : Ads) (ds : List Dt) (d : Dt) : Prop := ∃ (script : (List Int)) (k : Int) (r : Int), ds = [.lst (List.map Dt.int script), .int k] ∧ m__law_number script k = some r ∧ d = .int r
set_option maxHeartbeats 4000000 in
theorem ok__law_number (T : Top K mg A) : FnOk P w K mg base CX0 1 A.f__law_number A.d__law_number ["_law_script", "_law_k"] (FSpec K (RD (P__law_number A))) :=
  fn_D T.F__law_number sc__law_number (fun ds d h => by obtain ⟨script, k, r, rfl, _, _⟩ := h; rfl) fun cdv A1 outer s H E hr => ⟨_, pss_cons (ps_set (i := 2) sc__law_number.nd rfl (by first | exact Or.inl rfl | exact Or.inr rfl) (pe_int))
 (pss_cons (ps_if (pt_cmpR op_lt (pv 1) (pe_callB cr_lenS (by rfl) T.z_len bt_len (pa_cons (pv 0) (pa_nil))) (nomark _)) (pss_cons (ps_set (i := 2) sc__law_number.nd rfl (by first | exact Or.inl rfl | exact Or.inr rfl) (pe_ix ix_list (pv 0) (pv 1) (fun _ _ => rfl)))
 (pss_nil)) (pss_nil))
 (pss_cons (ps_if (pt_cmpR op_lt (pv 2) (pe_int) (nomark _)) (pss_cons (ps_set (i := 2) sc__law_number.nd rfl (by first | exact Or.inl rfl | exact Or.inr rfl) (pe_op op_sub (pe_int) (pe_op op_mulG (pe_int) (pv 2))))
 (pss_nil)) (pss_nil))
 (pss_cons (ps_if (pt_cmpR op_ge (pv 2) (pe_int) (nomark _)) (pss_cons (ps_ret (pv 2))
 (pss_nil)) (pss_nil))
 (pss_cons (ps_set (i := 3) sc__law_number.nd rfl (by first | exact Or.inl rfl | exact Or.inr rfl) (pe_op op_mod (pe_callTy cr_int (by rfl) T.z_int bt_int (pa_cons (pe_op op_add (pe_op op_mulG (pe_op op_add (pv 2) (pe_int)) (pe_int)) (pe_op op_mulG (pe_op op_add (pv 1) (pe_int)) (pe_int))) (pa_nil))) (pe_int)))
 (pss_cons (ps_set (i := 4) sc__law_number.nd rfl (by first | exact Or.inl rfl | exact Or.inr rfl) (pe_op op_mod (pe_callTy cr_int (by rfl) T.z_int bt_int (pa_cons (pe_op op_add (pe_op op_mulG (pv 3) (pe_int)) (pe_op op_mulG (pe_op op_add (pv 2) (pe_int)) (pe_op op_add (pv 1) (pe_int)))) (pa_nil))) (pe_int)))
 (pss_cons (ps_ret (pe_op op_add (pe_op op_mulG (pv 3) (pe_int)) (pv 4)))
 (pss_nil))))))), fun ds d h => by
    obtain ⟨script, k, r, rfl, h, rfl⟩ := h
    unfold m__law_number at h
    refine ⟨_, List.replicate 5 .un, sm_run (es := [.d (.lst (List.map Dt.int script)), .d (.int k), .un, .un, .un]) (oc := fun (r : Int) => .rt (.int r) (List.replicate 5 .un)) h ?_, .inl rfl⟩
    exact sm_one <|
sm_as <|
sm_lt fun cell1 h_cell1 =>
sm_set (es' := [.d (.lst (List.map Dt.int script)), .d (.int k), .d (.int cell1), .un, .un]) (ev_is (ev_int) (congrArg Dt.int h_cell1)) rfl <|
sm_as <|
sm_seq (env := fun (s : Int) => [.d (.lst (List.map Dt.int script)), .d (.int k), .d (.int s), .un, .un]) (sm_one <| sm_if (et_test (ev_lt (ev_var (i := 1) rfl) (ev_lenLm (ev_var (i := 0) rfl)))) (fun hb =>
sm_as <|
sm_bind fun t2 h_t2 =>
sm_set (es' := [.d (.lst (List.map Dt.int script)), .d (.int k), .d (.int t2), .un, .un]) (ev_ixLC (em := Dt.int) (ev_var (i := 0) rfl) (ev_var (i := 1) rfl) h_t2) rfl <|
sm_nil <|
sm_some (sev_nx (wk_e <| wk_e <| wk_e <| wk_u <| wk_u <| wk_n))) (fun hb =>
sm_nil <|
sm_some (sev_nx (wk_e <| wk_e <| wk_e <| wk_u <| wk_u <| wk_n)))) fun s3 h_s3 =>
sm_as <|
sm_seq (env := fun (s : Int) => [.d (.lst (List.map Dt.int script)), .d (.int k), .d (.int s), .un, .un]) (sm_one <| sm_if (et_test (ev_lt (ev_var (i := 2) rfl) (ev_int))) (fun hb =>
sm_as <|
sm_bind fun t4 h_t4 =>
sm_lt fun cell5 h_cell5 =>
sm_set (es' := [.d (.lst (List.map Dt.int script)), .d (.int k), .d (.int cell5), .un, .un]) (ev_is (ev_sub (ev_int) (ev_mul (ev_int) (ev_var (i := 2) rfl) h_t4)) (congrArg Dt.int h_cell5)) rfl <|
sm_nil <|
sm_some (sev_nx (wk_e <| wk_e <| wk_e <| wk_u <| wk_u <| wk_n))) (fun hb =>
sm_nil <|
sm_some (sev_nx (wk_e <| wk_e <| wk_e <| wk_u <| wk_u <| wk_n)))) fun s6 h_s6 =>
sm_as <|
sm_if (et_test (ev_ge (ev_var (i := 2) rfl) (ev_int))) (fun hb =>
sm_as <|
sm_some (sev_rt (ev_var (i := 2) rfl) (wk_uns rfl))) (fun hb =>
sm_nil <|
sm_as <|
sm_bind fun t7 h_t7 =>
sm_bind fun t8 h_t8 =>
sm_bind fun t9 h_t9 =>
sm_set (es' := [.d (.lst (List.map Dt.int script)), .d (.int k), .d (.int s6), .d (.int t9), .un]) (ev_mod (ev_intI (ev_add (ev_mul (ev_add (ev_var (i := 2) rfl) (ev_int)) (ev_int) h_t7) (ev_mul (ev_add (ev_var (i := 1) rfl) (ev_int)) (ev_int) h_t8))) (ev_int) h_t9) rfl <|
sm_as <|
sm_bind fun t10 h_t10 =>
sm_bind fun t11 h_t11 =>
sm_bind fun t12 h_t12 =>
sm_set (es' := [.d (.lst (List.map Dt.int script)), .d (.int k), .d (.int s6), .d (.int t9), .d (.int t12)]) (ev_mod (ev_intI (ev_add (ev_mul (ev_var (i := 3) rfl) (ev_int) h_t10) (ev_mul (ev_add (ev_var (i := 2) rfl) (ev_int)) (ev_add (ev_var (i := 1) rfl) (ev_int)) h_t11))) (ev_int) h_t12) rfl <|
sm_as <|
sm_bind fun t13 h_t13 =>
sm_some (sev_rt (ev_add (ev_mul (ev_var (i := 3) rfl) (ev_int) h_t13) (ev_var (i := 4) rfl)) (wk_uns rfl)))⟩
theorem sc__law_digits : FnScope ["_law_script", "_law_first", "_law_count", "_law_number_here", "_law_k"] ["_law_script", "_law_first", "_law_count"] (defScope (topS 8)) := ⟨rfl, rfl, rfl, by decide +kernel, rfl, by decide +kernel, by decide +kernel⟩
theorem b__law_digits (T : Top K mg A) : Binds K A.d__law_digits ["_law_script", "_law_first", "_law_count"] [] := T.F__law_digits.binds (ps := ["_law_script", "_law_first", "_law_count"]) fun _ _ _ _ _ _ us hl => match us, hl with | [_, _, _], _ => rfl
def P__law_digits (A : Ads) (ds : List Dt) (d : List Dt) : Prop := ∃ (script : (List Int)) (first : Int) (count : Int) (r : (List Int)), ds = [.lst (List.map Dt.int script), .int first, .int count] ∧ m__law_digits script first count = some r ∧ d = List.map Dt.int r
set_option maxHeartbeats 4000000 in
theorem ok__law_digits (T : Top K mg A) : FnOk P w K mg base CX0 2 A.f__law_digits A.d__law_digits ["_law_script", "_law_first", "_law_count"] (FSpecL K (P__law_digits A)) :=
  fn_L T.F__law_digits sc__law_digits (fun ds d h => by obtain ⟨script, first, count, r, rfl, _, _⟩ := h; rfl) fun cdv A1 outer s H E hr => ⟨_, pss_cons (ps_set (i := 3) sc__law_digits.nd rfl (by first | exact Or.inl rfl | exact Or.inr rfl) (pe_int))
 (pss_cons (ps_for PassesOwn.never rfl (pi_range1 (by rfl) T.z_range (pa_cons (pv 2) (pa_nil))) (pg_name (i := 4) sc__law_digits.nd rfl (by first | exact Or.inl rfl | exact Or.inr rfl)) (pss_cons (ps_set (i := 3) sc__law_digits.nd rfl (by first | exact Or.inl rfl | exact Or.inr rfl) (pe_op op_add (pe_op op_mulG (pv 3) (pe_int)) (pe_call (ok__law_number T) (hr.mono (by decide)) (by rfl) T.g__law_number T.F__law_number.kp (b__law_number T) .nil pass0 (pa_cons (pv 0) (pa_cons (pe_op op_sub (pe_op op_sub (pe_op op_add (pv 1) (pv 2)) (pe_int)) (pv 4)) (pa_nil))))))
 (pss_nil)))
 (pss_cons (ps_ret (pe_lst (pa_cons (pv 3) (pa_nil))))
 (pss_nil))), fun ds d h => by
    obtain ⟨script, first, count, r, rfl, h, rfl⟩ := h
    unfold m__law_digits at h
    refine ⟨List.replicate 5 .un, sm_run (es := [.d (.lst (List.map Dt.int script)), .d (.int first), .d (.int count), .un, .un]) (oc := fun (r : (List Int)) => .rl (List.map Dt.int r) (List.replicate 5 .un)) h ?_⟩
    exact sm_one <|
sm_as <|
sm_lt fun number_here1 h_number_here1 =>
sm_set (es' := [.d (.lst (List.map Dt.int script)), .d (.int first), .d (.int count), .d (.int number_here1), .un]) (ev_is (ev_int) (congrArg Dt.int h_number_here1)) rfl <|
sm_as <|
sm_bind fun r2 h_r2 =>
sm_seq (env := fun (s : Int) => [.d (.lst (List.map Dt.int script)), .d (.int first), .d (.int count), .d (.int s), .un]) (sm_forL (xs := r2) (em := Dt.int) (env := fun (s : Int) => [.d (.lst (List.map Dt.int script)), .d (.int first), .d (.int count), .d (.int s), .un]) (en2 := fun (k4 : Int) (s3 : Int) => [.d (.lst (List.map Dt.int script)), .d (.int first), .d (.int count), .d (.int s3), .d (.int k4)]) (ei_rng1 (ea_cons (ev_var (i := 2) rfl) (ea_nil)) h_r2) (wk_e <| wk_e <| wk_e <| wk_e <| wk_u <| wk_n) (fun k4 s3 => eg_name (vs := [4]) (by simp)) fun k4 s3 h_k4 => sm_one <|
sm_as <|
sm_bind fun t5 h_t5 =>
sm_bind fun t6 h_t6 =>
sm_lt fun number_here7 h_number_here7 =>
sm_set (es' := [.d (.lst (List.map Dt.int script)), .d (.int first), .d (.int count), .d (.int number_here7), .d (.int k4)]) (ev_is (ev_add (ev_mul (ev_var (i := 3) rfl) (ev_int) h_t5) (ev_call (ea_cons (ev_var (i := 0) rfl) (ea_cons (ev_sub (ev_sub (ev_add (ev_var (i := 1) rfl) (ev_var (i := 2) rfl)) (ev_int)) (ev_var (i := 4) rfl)) (ea_nil))) ⟨script, ((first + count) - 1) - k4, t6, rfl, h_t6, rfl⟩)) (congrArg Dt.int h_number_here7)) rfl <|
sm_nil <|
sm_some (sev_go (wk_e <| wk_e <| wk_e <| wk_e <| wk_u <| wk_n))) fun s8 h_s8 =>
sm_as <|
sm_some (sev_rtL (el_lst (ds := List.map Dt.int [s8]) (ea_cons (ev_var (i := 3) rfl) (ea_nil)) (by simp)) (wk_uns rfl))⟩
theorem sc__law_digit : FnScope ["_law_digits_here", "_law_many", "_law_value"] ["_law_digits_here", "_law_many"] (defScope (topS 9)) := ⟨rfl, rfl, rfl, by decide +kernel, rfl, by decide +kernel, by decide +kernel⟩
theorem b__law_digit (T : Top K mg A) : Binds K A.d__law_digit ["_law_digits_here", "_law_many"] [] := T.F__law_digit.binds (ps := ["_law_digits_here", "_law_many"]) fun _ _ _ _ _ _ us hl => match us, hl with | [_, _], _ => rfl
def P__law_digit (A : Ads) (xs ds : List Dt) (d : Dt) (ys : List Dt) : Prop := ∃ (digits_here : (List Int)) (many : Int) (r : (Int × List Int)), xs = List.map Dt.int digits_here ∧ ds = [.int many] ∧ m__law_digit digits_here many = some r ∧ d = .int r.1 ∧ ys = List.map Dt.int r.2
set_option maxHeartbeats 4000000 in
theorem ok__law_digit (T : Top K mg A) : FnOk P w K mg base CX0 1 A.f__law_digit A.d__law_digit ["_law_digits_here", "_law_many"] (FSpec K (RMu (P__law_digit A))) :=
  fn_M T.F__law_digit sc__law_digit (fun xs ds d ys h => by obtain ⟨digits_here, many, r, rfl, rfl, _⟩ := h; rfl) fun cdv A1 outer s H E hr => ⟨_, pss_cons (ps_set (i := 2) sc__law_digit.nd rfl (by first | exact Or.inl rfl | exact Or.inr rfl) (pe_op op_mod (pe_callTy cr_int (by rfl) T.z_int bt_int (pa_cons (pe_ix ix_list (pv 0) (pe_int) (fun _ _ => rfl)) (pa_nil))) (pv 1)))
 (pss_cons (ps_asg (pe_op op_fdivW (pe_callTy cr_int (by rfl) T.z_int bt_int (pa_cons (pe_ix ix_list (pv 0) (pe_int) (fun _ _ => rfl)) (pa_nil))) (pv 1)) (pg_sub (pv 0) (pe_int) set_list))
 (pss_cons (ps_ret (pv 2))
 (pss_nil))), fun p xs ds d ys h => by
    obtain ⟨digits_here, many, r, rfl, rfl, h, rfl, rfl⟩ := h
    unfold m__law_digit at h
    refine ⟨_, List.replicate 2 .un, sm_run (es := [.own (some p) (List.map Dt.int digits_here), .d (.int many), .un]) (oc := fun (r : (Int × List Int)) => .rt (.int r.1) (.own (some p) (List.map Dt.int r.2) :: List.replicate 2 .un)) h ?_, .inl rfl⟩
    exact sm_one <|
sm_as <|
sm_bind fun t1 h_t1 =>
sm_bind fun t2 h_t2 =>
sm_set (es' := [.own (some p) (List.map Dt.int digits_here), .d (.int many), .d (.int t2)]) (ev_mod (ev_intI (ev_ixOC (j := 0) (em := Dt.int) rfl (ev_int) h_t1)) (ev_var (i := 1) rfl) h_t2) rfl <|
sm_as <|
sm_bind fun t3 h_t3 =>
sm_bind fun t4 h_t4 =>
sm_bind fun digits_here5 h_digits_here5 =>
sm_setL (i := 0) (es' := [.own (some p) (List.map Dt.int digits_here5), .d (.int many), .d (.int t2)]) (em := Dt.int) rfl (ev_div (ev_intI (ev_ixOC (j := 0) (em := Dt.int) rfl (ev_int) h_t3)) (ev_var (i := 1) rfl) h_t4) (ev_int) h_digits_here5 rfl <|
sm_as <|
sm_some (sev_rt (ev_var (i := 2) rfl) (wk_e <| wk_u <| wk_u <| wk_n))⟩
theorem sc__law_step : FnScope ["_law_digits_here", "_law_index", "_law_size", "_law_name", "_law_kind", "_law_ahead"] ["_law_digits_here", "_law_index", "_law_size"] (defScope (topS 11)) := ⟨rfl, rfl, rfl, by decide +kernel, rfl, by decide +kernel, by decide +kernel⟩
theorem b__law_step (T : Top K mg A) : Binds K A.d__law_step ["_law_digits_here", "_law_index", "_law_size"] [] := T.F__law_step.binds (ps := ["_law_digits_here", "_law_index", "_law_size"]) fun _ _ _ _ _ _ us hl => match us, hl with | [_, _, _], _ => rfl
def P__law_step (A : Ads) (xs ds : List Dt) (d : Dt) (ys : List Dt) : Prop := ∃ (digits_here : (List Int)) (index : Int) (size : Int) (r : (Stp × List Int)), xs = List.map Dt.int digits_here ∧ ds = [.int index, .int size] ∧ m__law_step digits_here index size = some r ∧ d = d_Stp r.1 ∧ ys = List.map Dt.int r.2
set_option maxHeartbeats 4000000 in
theorem ok__law_step (T : Top K mg A) : FnOk P w K mg base CX0 2 A.f__law_step A.d__law_step ["_law_digits_here", "_law_index", "_law_size"] (FSpec K (RMu (P__law_step A))) :=
  fn_M T.F__law_step sc__law_step (fun xs ds d ys h => by obtain ⟨digits_here, index, size, r, rfl, rfl, _⟩ := h; rfl) fun cdv A1 outer s H E hr => ⟨_, pss_cons (ps_set (i := 3) sc__law_step.nd rfl (by first | exact Or.inl rfl | exact Or.inr rfl) (pe_ix ix_list (pe_lst (pa_cons (pe_str) (pa_cons (pe_str) (pa_cons (pe_str) (pa_cons (pe_str) (pa_cons (pe_str) (pa_cons (pe_str) (pa_nil)))))))) (pe_call (ok__law_digit T) (hr.mono (by decide)) (by rfl) T.g__law_digit T.F__law_digit.kp (b__law_digit T) .nil pass0 (pa_cons (pv 0) (pa_cons (pe_int) (pa_nil)))) (fun _ _ => rfl)))
 (pss_cons (ps_set (i := 4) sc__law_step.nd rfl (by first | exact Or.inl rfl | exact Or.inr rfl) (pe_call (ok__law_digit T) (hr.mono (by decide)) (by rfl) T.g__law_digit T.F__law_digit.kp (b__law_digit T) .nil pass0 (pa_cons (pv 0) (pa_cons (pe_int) (pa_nil)))))
 (pss_cons (ps_set (i := 5) sc__law_step.nd rfl (by first | exact Or.inl rfl | exact Or.inr rfl) (pe_op op_add (pe_op op_add (pv 1) (pe_int)) (pe_call (ok__law_digit T) (hr.mono (by decide)) (by rfl) T.g__law_digit T.F__law_digit.kp (b__law_digit T) .nil pass0 (pa_cons (pv 0) (pa_cons (pe_op op_sub (pv 2) (pv 1)) (pa_nil))))))
 (pss_cons (ps_if (pt_cmpR op_lt (pv 4) (pe_int) (nomark _)) (pss_cons (ps_ret (pe_tup (pa_cons (pe_str) (pa_cons (pv 5) (pa_nil)))))
 (pss_nil)) (pss_nil))
 (pss_cons (ps_if (pt_cmpR op_eq (pv 4) (pe_int) (nomark _)) (pss_cons (ps_ret (pe_tup (pa_cons (pe_str) (pa_cons (pv 3) (pa_cons (pv 5) (pa_nil))))))
 (pss_nil)) (pss_nil))
 (pss_cons (ps_if (pt_cmpR op_eq (pv 4) (pe_int) (nomark _)) (pss_cons (ps_ret (pe_tup (pa_cons (pe_str) (pa_cons (pv 3) (pa_cons (pe_cmpR op_eq (pe_call (ok__law_digit T) (hr.mono (by decide)) (by rfl) T.g__law_digit T.F__law_digit.kp (b__law_digit T) .nil pass0 (pa_cons (pv 0) (pa_cons (pe_int) (pa_nil)))) (pe_int) (nomark _)) (pa_nil))))))
 (pss_nil)) (pss_nil))
 (pss_cons (ps_if (pt_cmpR op_eq (pv 4) (pe_int) (nomark _)) (pss_cons (ps_ret (pe_tup (pa_cons (pe_str) (pa_cons (pv 3) (pa_cons (pe_cmpR op_eq (pe_call (ok__law_digit T) (hr.mono (by decide)) (by rfl) T.g__law_digit T.F__law_digit.kp (b__law_digit T) .nil pass0 (pa_cons (pv 0) (pa_cons (pe_int) (pa_nil)))) (pe_int) (nomark _)) (pa_nil))))))
 (pss_nil)) (pss_nil))
 (pss_cons (ps_if (pt_cmpR op_eq (pv 4) (pe_int) (nomark _)) (pss_cons (ps_ret (pe_tup (pa_cons (pe_str) (pa_cons (pe_non) (pa_nil)))))
 (pss_nil)) (pss_nil))
 (pss_cons (ps_if (pt_cmpR op_eq (pv 4) (pe_int) (nomark _)) (pss_cons (ps_ret (pe_tup (pa_cons (pe_str) (pa_cons (pv 3) (pa_nil)))))
 (pss_nil)) (pss_nil))
 (pss_cons (ps_ret (pe_tup (pa_cons (pe_str) (pa_cons (pv 3) (pa_nil)))))
 (pss_nil)))))))))), fun p xs ds d ys h => by
    obtain ⟨digits_here, index, size, r, rfl, rfl, h, rfl, rfl⟩ := h
    unfold m__law_step at h
    refine ⟨_, List.replicate 5 .un, sm_run (es := [.own (some p) (List.map Dt.int digits_here), .d (.int index), .d (.int size), .un, .un, .un]) (oc := fun (r : (Stp × List Int)) => .rt (d_Stp r.1) (.own (some p) (List.map Dt.int r.2) :: List.replicate 5 .un)) h ?_, .inl rfl⟩
    exact sm_one <|
sm_as <|
sm_bind fun t1 h_t1 =>
sm_bind fun t2 h_t2 =>
sm_setM (es' := [.own (some p) (List.map Dt.int t1.2), .d (.int index), .d (.int size), .d (.str t2), .un, .un]) (evm_op (evm_of (ev_new (el_lst (ea_cons (ev_str) (ea_cons (ev_str) (ea_cons (ev_str) (ea_cons (ev_str) (ea_cons (ev_str) (ea_cons (ev_str) (ea_nil))))))) (by simp)))) (evm_callM (P := P__law_digit A) (i := 0) rfl (eam_cons (evm_of (ev_int)) (eam_nil)) rfl ⟨digits_here, 6, t1, rfl, rfl, h_t1, rfl, rfl⟩ (es' := [.own (some p) (List.map Dt.int t1.2), .d (.int index), .d (.int size), .un, .un, .un]) rfl) (r2_of (ev_ixLC (em := Dt.str) (xs := [("a" : Str), ("b2" : Str), ("c_" : Str), ("move_" : Str), ("x" : Str), ("abcdefghijklmnopqrst" : Str)]) (ev_var (i := 0) rfl) (ev_var (i := 1) rfl) h_t2))) rfl <|
sm_as <|
sm_bind fun t3 h_t3 =>
sm_setM (es' := [.own (some p) (List.map Dt.int t3.2), .d (.int index), .d (.int size), .d (.str t2), .d (.int t3.1), .un]) (evm_callM (P := P__law_digit A) (i := 0) rfl (eam_cons (evm_of (ev_int)) (eam_nil)) rfl ⟨t1.2, 9, t3, rfl, rfl, h_t3, rfl, rfl⟩ (es' := [.own (some p) (List.map Dt.int t3.2), .d (.int index), .d (.int size), .d (.str t2), .un, .un]) rfl) rfl <|
sm_as <|
sm_bind fun t4 h_t4 =>
sm_setM (es' := [.own (some p) (List.map Dt.int t4.2), .d (.int index), .d (.int size), .d (.str t2), .d (.int t3.1), .d (.int ((index + 1) + t4.1))]) (evm_op (evm_of (ev_add (ev_var (i := 1) rfl) (ev_int))) (evm_callM (P := P__law_digit A) (i := 0) rfl (eam_cons (evm_of (ev_sub (ev_var (i := 2) rfl) (ev_var (i := 1) rfl))) (eam_nil)) rfl ⟨t3.2, size - index, t4, rfl, rfl, h_t4, rfl, rfl⟩ (es' := [.own (some p) (List.map Dt.int t4.2), .d (.int index), .d (.int size), .d (.str t2), .d (.int t3.1), .un]) rfl) (r2_of (ev_add (ev_var (i := 0) rfl) (ev_var (i := 1) rfl)))) rfl <|
sm_as <|
sm_if (et_test (ev_lt (ev_var (i := 4) rfl) (ev_int))) (fun hb =>
sm_as <|
sm_some (sev_rt (ev_is (ev_tup (ea_cons (ev_str) (ea_cons (ev_var (i := 5) rfl) (ea_nil))) (by simp)) rfl) (wk_e <| wk_u <| wk_u <| wk_u <| wk_u <| wk_u <| wk_n))) (fun hb =>
sm_nil <|
sm_as <|
sm_if (et_test (ev_eqI (ev_var (i := 4) rfl) (ev_int))) (fun hb =>
sm_as <|
sm_some (sev_rt (ev_is (ev_tup (ea_cons (ev_str) (ea_cons (ev_var (i := 3) rfl) (ea_cons (ev_var (i := 5) rfl) (ea_nil)))) (by simp)) rfl) (wk_e <| wk_u <| wk_u <| wk_u <| wk_u <| wk_u <| wk_n))) (fun hb =>
sm_nil <|
sm_as <|
sm_if (et_test (ev_eqI (ev_var (i := 4) rfl) (ev_int))) (fun hb =>
sm_as <|
sm_bind fun t5 h_t5 =>
sm_some (sev_rtM (evm_is (evm_tup (eam_cons (evm_of (ev_str)) (eam_cons (evm_of (ev_var (i := 3) rfl)) (eam_cons (evm_op (evm_callM (P := P__law_digit A) (i := 0) rfl (eam_cons (evm_of (ev_int)) (eam_nil)) rfl ⟨t4.2, 2, t5, rfl, rfl, h_t5, rfl, rfl⟩ (es' := [.own (some p) (List.map Dt.int t5.2), .d (.int index), .d (.int size), .d (.str t2), .d (.int t3.1), .d (.int ((index + 1) + t4.1))]) rfl) (evm_of (ev_int)) (r2_of (ev_eqI (ev_var (i := 0) rfl) (ev_var (i := 1) rfl)))) (eam_nil)))) (by simp)) rfl) (wk_e <| wk_u <| wk_u <| wk_u <| wk_u <| wk_u <| wk_n))) (fun hb =>
sm_nil <|
sm_as <|
sm_if (et_test (ev_eqI (ev_var (i := 4) rfl) (ev_int))) (fun hb =>
sm_as <|
sm_bind fun t6 h_t6 =>
sm_some (sev_rtM (evm_is (evm_tup (eam_cons (evm_of (ev_str)) (eam_cons (evm_of (ev_var (i := 3) rfl)) (eam_cons (evm_op (evm_callM (P := P__law_digit A) (i := 0) rfl (eam_cons (evm_of (ev_int)) (eam_nil)) rfl ⟨t4.2, 2, t6, rfl, rfl, h_t6, rfl, rfl⟩ (es' := [.own (some p) (List.map Dt.int t6.2), .d (.int index), .d (.int size), .d (.str t2), .d (.int t3.1), .d (.int ((index + 1) + t4.1))]) rfl) (evm_of (ev_int)) (r2_of (ev_eqI (ev_var (i := 0) rfl) (ev_var (i := 1) rfl)))) (eam_nil)))) (by simp)) rfl) (wk_e <| wk_u <| wk_u <| wk_u <| wk_u <| wk_u <| wk_n))) (fun hb =>
sm_nil <|
sm_as <|
sm_if (et_test (ev_eqI (ev_var (i := 4) rfl) (ev_int))) (fun hb =>
sm_as <|
sm_some (sev_rt (ev_is (ev_tup (ea_cons (ev_str) (ea_cons (ev_non) (ea_nil))) (by simp)) rfl) (wk_e <| wk_u <| wk_u <| wk_u <| wk_u <| wk_u <| wk_n))) (fun hb =>
sm_nil <|
sm_as <|
sm_if (et_test (ev_eqI (ev_var (i := 4) rfl) (ev_int))) (fun hb =>
sm_as <|
sm_some (sev_rt (ev_is (ev_tup (ea_cons (ev_str) (ea_cons (ev_var (i := 3) rfl) (ea_nil))) (by simp)) rfl) (wk_e <| wk_u <| wk_u <| wk_u <| wk_u <| wk_u <| wk_n))) (fun hb =>
sm_nil <|
sm_as <|
sm_some (sev_rt (ev_is (ev_tup (ea_cons (ev_str) (ea_cons (ev_var (i := 3) rfl) (ea_nil))) (by simp)) rfl) (wk_e <| wk_u <| wk_u <| wk_u <| wk_u <| wk_u <| wk_n))))))))⟩
theorem sc_landing : FnScope ["flow", "index"] ["flow", "index"] (defScope (topS 1)) := ⟨rfl, rfl, rfl, by decide +kernel, rfl, by decide +kernel, by decide +kernel⟩
theorem b_landing (T : Top K mg A) : Binds K A.d_landing ["flow", "index"] [] := T.F_landing.binds (ps := ["flow", "index"]) fun _ _ _ _ _ _ us hl => match us, hl with | [_, _], _ => rfl
def P_landing (A : Ads) (ds : List Dt) (d : Dt) : Prop := ∃ (flow : (List Stp)) (index : Int) (r : Int), ds = [.lst (List.map d_Stp flow), .int index] ∧ m_landing flow index = some r ∧ d = .int r
set_option maxHeartbeats 4000000 in
theorem ok_landing (T : Top K mg A) : FnOk P w K mg base CX0 1 A.f_landing A.d_landing ["flow", "index"] (FSpec K (RD (P_landing A))) :=
  fn_D T.F_landing sc_landing (fun ds d h => by obtain ⟨flow, index, r, rfl, _, _⟩ := h; rfl) fun cdv A1 outer s H E hr => ⟨_, pss_cons (ps_while PassesOwn.never (PW.pt (pw_and (pt_cmpR op_lt (pv 1) (pe_callB cr_lenS (by rfl) T.z_len bt_len (pa_cons (pv 0) (pa_nil))) (nomark _)) (pw_and1 (pt_cmpR op_eq (pe_ix ix_tup (pe_ix ix_list (pv 0) (pv 1) (fun _ _ => rfl)) (pe_int) (fun _ _ => rfl)) (pe_str) (nomark _))))) (pss_cons (ps_set (i := 1) sc_landing.nd rfl (by first | exact Or.inl rfl | exact Or.inr rfl) (pe_ix ix_tup (pe_ix ix_list (pv 0) (pv 1) (fun _ _ => rfl)) (pe_int) (fun _ _ => rfl)))
 (pss_nil)))
 (pss_cons (ps_ret (pv 1))
 (pss_nil)), fun ds d h => by
    obtain ⟨flow, index, r, rfl, h, rfl⟩ := h
    unfold m_landing at h
    refine ⟨_, List.replicate 2 .un, sm_run (es := [.d (.lst (List.map d_Stp flow)), .d (.int index)]) (oc := fun (r : Int) => .rt (.int r) (List.replicate 2 .un)) h ?_, .inl rfl⟩
    exact sm_one <|
sm_as <|
sm_thenF (env := fun (s : Int) => [.d (.lst (List.map d_Stp flow)), .d (.int s)]) (ed := fun r => .int r) (ee := fun _ => List.replicate 2 .un) (sm_while (env := fun (s : Int) => [.d (.lst (List.map d_Stp flow)), .d (.int s)]) (wk_e <| wk_e <| wk_n) (fun s1 => et_bnd fun b3 h_b3 => et_pure (et_andC (et_test (ev_lt (ev_var (i := 1) rfl) (ev_lenLm (ev_var (i := 0) rfl)))) (fun _ => et_bnd fun t2 h_t2 => et_pure (et_test (ev_eqS (ev_ixR (ev_ixLC (em := d_Stp) (ev_var (i := 0) rfl) (ev_var (i := 1) rfl) h_t2) (ev_int) (d_Stp_word _)) (ev_str)))) h_b3)) fun s1 => sm_one <|
sm_as <|
sm_bind fun t4 h_t4 =>
sm_bind fun t5 h_t5 =>
sm_set (es' := [.d (.lst (List.map d_Stp flow)), .d (.int t5)]) (ev_ixR (ev_ixLC (em := d_Stp) (ev_var (i := 0) rfl) (ev_var (i := 1) rfl) h_t4) (ev_int) (d_Stp_at1I h_t5)) rfl <|
sm_nil <|
sm_some (sev_go (wk_e <| wk_e <| wk_n))) (fun s6 =>
sm_as <|
sm_some (sev_rt (ev_var (i := 1) rfl) (wk_uns rfl))) (fun _ => rfl)⟩
theorem sc__law_is_integer : FnScope ["_law_actual"] ["_law_actual"] (defScope (topS 10)) := ⟨rfl, rfl, rfl, by decide +kernel, rfl, by decide +kernel, by decide +kernel⟩
theorem b__law_is_integer (T : Top K mg A) : Binds K A.d__law_is_integer ["_law_actual"] [] := T.F__law_is_integer.binds (ps := ["_law_actual"]) fun _ _ _ _ _ _ us hl => match us, hl with | [_], _ => rfl
def P__law_is_integer (A : Ads) (ds : List Dt) (d : Dt) : Prop := ∃ (actual : Int) (r : Bool), ds = [.int actual] ∧ m__law_is_integer actual = some r ∧ d = .bl r
set_option maxHeartbeats 4000000 in
theorem ok__law_is_integer (T : Top K mg A) : FnOk P w K mg base CX0 1 A.f__law_is_integer A.d__law_is_integer ["_law_actual"] (FSpec K (RD (P__law_is_integer A))) :=
  fn_D T.F__law_is_integer sc__law_is_integer (fun ds d h => by obtain ⟨actual, r, rfl, _, _⟩ := h; rfl) fun cdv A1 outer s H E hr => ⟨_, pss_cons (ps_ret (pe_and (pe_callB call_isi (by rfl) T.z_isinstance bt_isinstance (pa_cons (pv 0) (pa_cons (pe_bltn (v := .ty "int") (by rfl) T.z_int bt_int rfl) pa_nil))) (pe_one (pe_not (pe_callB call_isi (by rfl) T.z_isinstance bt_isinstance (pa_cons (pv 0) (pa_cons (pe_bltn (v := .ty "bool") (by rfl) T.z_bool bt_bool rfl) pa_nil)))))))
 (pss_nil), fun ds d h => by
    obtain ⟨actual, r, rfl, h, rfl⟩ := h
    unfold m__law_is_integer at h
    refine ⟨_, List.replicate 1 .un, sm_run (es := [.d (.int actual)]) (oc := fun (r : Bool) => .rt (.bl r) (List.replicate 1 .un)) h ?_, .inl rfl⟩
    exact sm_one <|
sm_as <|
sm_some (sev_rt (ev_andV (ev_isi (n := "int") (t := "int") rfl (by decide) (by decide) (by decide +kernel) (ev_var (i := 0) rfl) ev_ty) (fun _ => ev_notV (ev_isi (n := "bool") (t := "int") rfl (by decide) (by decide) (by decide +kernel) (ev_var (i := 0) rfl) ev_ty))) (wk_uns rfl))⟩
theorem sc__law_landing : FnScope ["_law_flow", "_law_index", "_law_k"] ["_law_flow", "_law_index"] (defScope (topS 12)) := ⟨rfl, rfl, rfl, by decide +kernel, rfl, by decide +kernel, by decide +kernel⟩
theorem b__law_landing (T : Top K mg A) : Binds K A.d__law_landing ["_law_flow", "_law_index"] [] := T.F__law_landing.binds (ps := ["_law_flow", "_law_index"]) fun _ _ _ _ _ _ us hl => match us, hl with | [_, _], _ => rfl
def P__law_landing (A : Ads) (ds : List Dt) (d : Dt) : Prop := ∃ (flow : (List Stp)) (index : Int) (r : Int), ds = [.lst (List.map d_Stp flow), .int index] ∧ m__law_landing flow index = some r ∧ d = .int r
set_option maxHeartbeats 4000000 in
theorem ok__law_landing (T : Top K mg A) : FnOk P w K mg base CX0 1 A.f__law_landing A.d__law_landing ["_law_flow", "_law_index"] (FSpec K (RD (P__law_landing A))) :=
  fn_D T.F__law_landing sc__law_landing (fun ds d h => by obtain ⟨flow, index, r, rfl, _, _⟩ := h; rfl) fun cdv A1 outer s H E hr => ⟨_, pss_cons (ps_for PassesOwn.never rfl (pi_range1 (by rfl) T.z_range (pa_cons (pe_op op_add (pe_callB cr_lenS (by rfl) T.z_len bt_len (pa_cons (pv 0) (pa_nil))) (pe_int)) (pa_nil))) (pg_name (i := 2) sc__law_landing.nd rfl (by first | exact Or.inl rfl | exact Or.inr rfl)) (pss_cons (ps_if (PW.pt (pw_and (pt_cmpR op_lt (pv 1) (pe_callB cr_lenS (by rfl) T.z_len bt_len (pa_cons (pv 0) (pa_nil))) (nomark _)) (pw_and1 (pt_cmpR op_eq (pe_ix ix_tup (pe_ix ix_list (pv 0) (pv 1) (fun _ _ => rfl)) (pe_int) (fun _ _ => rfl)) (pe_str) (nomark _))))) (pss_cons (ps_set (i := 1) sc__law_landing.nd rfl (by first | exact Or.inl rfl | exact Or.inr rfl) (pe_ix ix_tup (pe_ix ix_list (pv 0) (pv 1) (fun _ _ => rfl)) (pe_int) (fun _ _ => rfl)))
 (pss_nil)) (pss_nil))
 (pss_nil)))
 (pss_cons (ps_ret (pv 1))
 (pss_nil)), fun ds d h => by
    obtain ⟨flow, index, r, rfl, h, rfl⟩ := h
    unfold m__law_landing at h
    refine ⟨_, List.replicate 3 .un, sm_run (es := [.d (.lst (List.map d_Stp flow)), .d (.int index), .un]) (oc := fun (r : Int) => .rt (.int r) (List.replicate 3 .un)) h ?_, .inl rfl⟩
    exact sm_one <|
sm_as <|
sm_bind fun r1 h_r1 =>
sm_seq (env := fun (s : Int) => [.d (.lst (List.map d_Stp flow)), .d (.int s), .un]) (sm_forL (xs := r1) (em := Dt.int) (env := fun (s : Int) => [.d (.lst (List.map d_Stp flow)), .d (.int s), .un]) (en2 := fun (k3 : Int) (s2 : Int) => [.d (.lst (List.map d_Stp flow)), .d (.int s2), .d (.int k3)]) (ei_rng1 (ea_cons (ev_add (ev_lenLm (ev_var (i := 0) rfl)) (ev_int)) (ea_nil)) h_r1) (wk_e <| wk_e <| wk_u <| wk_n) (fun k3 s2 => eg_name (vs := [2]) (by simp)) fun k3 s2 h_k3 => sm_one <|
sm_as <|
sm_bind fun b5 h_b5 =>
sm_seq (env := fun (s : Int) => [.d (.lst (List.map d_Stp flow)), .d (.int s), .d (.int k3)]) (sm_one <| sm_if (et_andC (et_test (ev_lt (ev_var (i := 1) rfl) (ev_lenLm (ev_var (i := 0) rfl)))) (fun _ => et_bnd fun t4 h_t4 => et_pure (et_test (ev_eqS (ev_ixR (ev_ixLC (em := d_Stp) (ev_var (i := 0) rfl) (ev_var (i := 1) rfl) h_t4) (ev_int) (d_Stp_word _)) (ev_str)))) h_b5) (fun hb =>
sm_as <|
sm_bind fun t6 h_t6 =>
sm_bind fun t7 h_t7 =>
sm_set (es' := [.d (.lst (List.map d_Stp flow)), .d (.int t7), .d (.int k3)]) (ev_ixR (ev_ixLC (em := d_Stp) (ev_var (i := 0) rfl) (ev_var (i := 1) rfl) h_t6) (ev_int) (d_Stp_at1I h_t7)) rfl <|
sm_nil <|
sm_some (sev_nx (wk_e <| wk_e <| wk_e <| wk_n))) (fun hb =>
sm_nil <|
sm_some (sev_nx (wk_e <| wk_e <| wk_e <| wk_n)))) fun s8 h_s8 =>
sm_nil <|
sm_some (sev_go (wk_e <| wk_e <| wk_u <| wk_n))) fun s9 h_s9 =>
sm_as <|
sm_some (sev_rt (ev_var (i := 1) rfl) (wk_uns rfl))⟩
theorem sc_names_in : FnScope ["flow", "word", "names", "step"] ["flow", "word"] (defScope (topS 2)) := ⟨rfl, rfl, rfl, by decide +kernel, rfl, by decide +kernel, by decide +kernel⟩
theorem b_names_in (T : Top K mg A) : Binds K A.d_names_in ["flow", "word"] [] := T.F_names_in.binds (ps := ["flow", "word"]) fun _ _ _ _ _ _ us hl => match us, hl with | [_, _], _ => rfl
def P_names_in (A : Ads) (ds : List Dt) (d : Dt) : Prop := ∃ (flow : (List Stp)) (word : Unit) (r : (List Str)), ds = [.lst (List.map d_Stp flow), .str "move"] ∧ m_names_in flow word = some r ∧ d = .lst (List.map Dt.str r)
set_option maxHeartbeats 4000000 in
theorem ok_names_in (T : Top K mg A) : FnOk P w K mg base CX0 1 A.f_names_in A.d_names_in ["flow", "word"] (FSpec K (RD (P_names_in A))) :=
  fn_D T.F_names_in sc_names_in (fun ds d h => by obtain ⟨flow, word, r, rfl, _, _⟩ := h; rfl) fun cdv A1 outer s H E hr => ⟨_, pss_cons (ps_set (i := 2) sc_names_in.nd rfl (by first | exact Or.inl rfl | exact Or.inr rfl) (pe_lst (pa_nil)))
 (pss_cons (ps_for PassesOwn.never rfl (pi_list (pv 0)) (pg_name (i := 3) sc_names_in.nd rfl (by first | exact Or.inl rfl | exact Or.inr rfl)) (pss_cons (ps_if (PW.pt (pw_and (pt_cmpR op_eq (pe_ix ix_tup (pv 3) (pe_int) (fun _ _ => rfl)) (pv 1) (nomark _)) (pw_and (pt_cmpR op_notN1 (pe_ix ix_tup (pv 3) (pe_int) (fun _ _ => rfl)) (pe_non) (nomark _)) (pw_and1 (pt_cmpR op_notIn_seq (pe_ix ix_tup (pv 3) (pe_int) (fun _ _ => rfl)) (pv 2) (by with_unfolding_all rfl)))))) (pss_cons (ps_expr (pe_bm PySem.F.plainAttrs_list PySem.F.slot_list_append PySem.F.type_list_append mt_append (pv 2) (pa_cons (pe_ix ix_tup (pv 3) (pe_int) (fun _ _ => rfl)) pa_nil)))
 (pss_nil)) (pss_nil))
 (pss_nil)))
 (pss_cons (ps_ret (pv 2))
 (pss_nil))), fun ds d h => by
    obtain ⟨flow, word, r, rfl, h, rfl⟩ := h
    unfold m_names_in at h
    refine ⟨_, List.replicate 4 .un, sm_run (es := [.d (.lst (List.map d_Stp flow)), .d (.str "move"), .un, .un]) (oc := fun (r : (List Str)) => .rt (.lst (List.map Dt.str r)) (List.replicate 4 .un)) h ?_, .inl rfl⟩
    exact sm_one <|
sm_as <|
sm_lt fun names1 h_names1 =>
sm_own (es' := [.d (.lst (List.map d_Stp flow)), .d (.str "move"), .own none (List.map Dt.str names1), .un]) (el_is (el_lst (ds := List.map Dt.str []) (ea_nil) (by simp)) (congrArg (List.map Dt.str) h_names1)) rfl <|
sm_as <|
sm_seq (env := fun (s : (List Str)) => [.d (.lst (List.map d_Stp flow)), .d (.str "move"), .own none (List.map Dt.str s), .un]) (sm_forL (xs := flow) (em := d_Stp) (env := fun (s : (List Str)) => [.d (.lst (List.map d_Stp flow)), .d (.str "move"), .own none (List.map Dt.str s), .un]) (en2 := fun (step3 : Stp) (s2 : (List Str)) => [.d (.lst (List.map d_Stp flow)), .d (.str "move"), .own none (List.map Dt.str s2), .d (d_Stp step3)]) (ei_list (ev_var (i := 0) rfl)) (wk_e <| wk_e <| wk_e <| wk_u <| wk_n) (fun step3 s2 => eg_name (vs := [3]) (by simp)) fun step3 s2 h_step3 => sm_one <|
sm_as <|
sm_bind fun b8 h_b8 =>
sm_seq (env := fun (s : (List Str)) => [.d (.lst (List.map d_Stp flow)), .d (.str "move"), .own none (List.map Dt.str s), .d (d_Stp step3)]) (sm_one <| sm_if (et_andC (et_test (ev_eqS (ev_ixR (ev_var (i := 3) rfl) (ev_int) (d_Stp_word _)) (ev_var (i := 1) rfl))) (fun _ => et_bnd fun t4 h_t4 => et_bnd fun b7 h_b7 => et_pure (et_andC (et_test (ev_nisO (em := Dt.str) (fun _ h => nomatch h) (ev_ixR (ev_var (i := 3) rfl) (ev_int) (d_Stp_at1O h_t4)))) (fun _ => et_bnd fun t5 h_t5 => et_bnd fun o6 h_o6 => et_pure (et_test (ev_borrow (es' := [.d (.lst (List.map d_Stp flow)), .d (.str "move"), .d (.lst (List.map Dt.str s2)), .d (d_Stp step3)]) ⟨.inr (.inl ⟨rfl, rfl⟩), .inr (.inl ⟨rfl, rfl⟩), .inr (.inr ⟨_, _, rfl, rfl⟩), .inr (.inl ⟨rfl, rfl⟩), trivial⟩ (ev_ninLS (xs := s2) (ev_some (em := Dt.str) h_o6 (ev_ixR (ev_var (i := 3) rfl) (ev_int) (d_Stp_at1O h_t5))) (ev_var (i := 2) rfl)) flat_bl))) h_b7)) h_b8) (fun hb =>
sm_as <|
sm_bind fun t9 h_t9 =>
sm_bind fun o10 h_o10 =>
sm_bind fun names11 h_names11 =>
sm_app (i := 2) (x := o10) (es' := [.d (.lst (List.map d_Stp flow)), .d (.str "move"), .own none (List.map Dt.str names11), .d (d_Stp step3)]) (em := Dt.str) rfl (ev_some (em := Dt.str) h_o10 (ev_ixR (ev_var (i := 3) rfl) (ev_int) (d_Stp_at1O h_t9))) h_names11 rfl <|
sm_nil <|
sm_some (sev_nx (wk_e <| wk_e <| wk_e <| wk_e <| wk_n))) (fun hb =>
sm_nil <|
sm_some (sev_nx (wk_e <| wk_e <| wk_e <| wk_e <| wk_n)))) fun s12 h_s12 =>
sm_nil <|
sm_some (sev_go (wk_e <| wk_e <| wk_e <| wk_u <| wk_n))) fun s13 h_s13 =>
sm_as <|
sm_frz (i := 2) (es' := [.d (.lst (List.map d_Stp flow)), .d (.str "move"), .d (.lst (List.map Dt.str s13)), .un]) rfl rfl <|
sm_some (sev_rt (ev_var (i := 2) rfl) (wk_uns rfl))⟩
theorem sc_points_of : FnScope ["flow"] ["flow"] (defScope (topS 3)) := ⟨rfl, rfl, rfl, by decide +kernel, rfl, by decide +kernel, by decide +kernel⟩
theorem b_points_of (T : Top K mg A) : Binds K A.d_points_of ["flow"] [] := T.F_points_of.binds (ps := ["flow"]) fun _ _ _ _ _ _ us hl => match us, hl with | [_], _ => rfl
def P_points_of (A : Ads) (ds : List Dt) (d : Dt) : Prop := ∃ (flow : (List Stp)) (r : (List Str)), ds = [.lst (List.map d_Stp flow)] ∧ m_points_of flow = some r ∧ d = .lst (List.map Dt.str r)
set_option maxHeartbeats 4000000 in
theorem ok_points_of (T : Top K mg A) : FnOk P w K mg base CX0 2 A.f_points_of A.d_points_of ["flow"] (FSpec K (RD (P_points_of A))) :=
  fn_D T.F_points_of sc_points_of (fun ds d h => by obtain ⟨flow, r, rfl, _, _⟩ := h; rfl) fun cdv A1 outer s H E hr => ⟨_, pss_cons (ps_ret (pe_call (ok_names_in T) (hr.mono (by decide)) (by rfl) T.g_names_in T.F_names_in.kp (b_names_in T) .nil pass0 (pa_cons (pv 0) (pa_cons (pe_str) (pa_nil)))))
 (pss_nil), fun ds d h => by
    obtain ⟨flow, r, rfl, h, rfl⟩ := h
    unfold m_points_of at h
    refine ⟨_, List.replicate 1 .un, sm_run (es := [.d (.lst (List.map d_Stp flow))]) (oc := fun (r : (List Str)) => .rt (.lst (List.map Dt.str r)) (List.replicate 1 .un)) h ?_, .inl rfl⟩
    exact sm_one <|
sm_as <|
sm_bind fun t1 h_t1 =>
sm_some (sev_rt (ev_call (ea_cons (ev_var (i := 0) rfl) (ea_cons (ev_str) (ea_nil))) ⟨flow, (), t1, rfl, h_t1, rfl⟩) (wk_uns rfl))⟩
theorem sc__law_each : FnScope ["_law_flow", "_law_word", "_law_names", "_law_step_here"] ["_law_flow", "_law_word"] (defScope (topS 13)) := ⟨rfl, rfl, rfl, by decide +kernel, rfl, by decide +kernel, by decide +kernel⟩
theorem b__law_each (T : Top K mg A) : Binds K A.d__law_each ["_law_flow", "_law_word"] [] := T.F__law_each.binds (ps := ["_law_flow", "_law_word"]) fun _ _ _ _ _ _ us hl => match us, hl with | [_, _], _ => rfl
def P__law_each (A : Ads) (ds : List Dt) (d : Dt) : Prop := ∃ (flow : (List Stp)) (word : Unit) (r : (List Str)), ds = [.lst (List.map d_Stp flow), .str "move"] ∧ m__law_each flow word = some r ∧ d = .lst (List.map Dt.str r)
set_option maxHeartbeats 4000000 in
theorem ok__law_each (T : Top K mg A) : FnOk P w K mg base CX0 1 A.f__law_each A.d__law_each ["_law_flow", "_law_word"] (FSpec K (RD (P__law_each A))) :=
  fn_D T.F__law_each sc__law_each (fun ds d h => by obtain ⟨flow, word, r, rfl, _, _⟩ := h; rfl) fun cdv A1 outer s H E hr => ⟨_, pss_cons (ps_set (i := 2) sc__law_each.nd rfl (by first | exact Or.inl rfl | exact Or.inr rfl) (pe_lst (pa_nil)))
 (pss_cons (ps_for PassesOwn.never rfl (pi_list (pv 0)) (pg_name (i := 3) sc__law_each.nd rfl (by first | exact Or.inl rfl | exact Or.inr rfl)) (pss_cons (ps_if (PW.pt (pw_and (pt_cmpR op_eq (pe_ix ix_tup (pv 3) (pe_int) (fun _ _ => rfl)) (pv 1) (nomark _)) (pw_and (pt_cmpR op_notN1 (pe_ix ix_tup (pv 3) (pe_int) (fun _ _ => rfl)) (pe_non) (nomark _)) (pw_and1 (pt_cmpR op_notIn_seq (pe_ix ix_tup (pv 3) (pe_int) (fun _ _ => rfl)) (pv 2) (by with_unfolding_all rfl)))))) (pss_cons (ps_expr (pe_bm PySem.F.plainAttrs_list PySem.F.slot_list_append PySem.F.type_list_append mt_append (pv 2) (pa_cons (pe_ix ix_tup (pv 3) (pe_int) (fun _ _ => rfl)) pa_nil)))
 (pss_nil)) (pss_nil))
 (pss_nil)))
 (pss_cons (ps_ret (pv 2))
 (pss_nil))), fun ds d h => by
    obtain ⟨flow, word, r, rfl, h, rfl⟩ := h
    unfold m__law_each at h
    refine ⟨_, List.replicate 4 .un, sm_run (es := [.d (.lst (List.map d_Stp flow)), .d (.str "move"), .un, .un]) (oc := fun (r : (List Str)) => .rt (.lst (List.map Dt.str r)) (List.replicate 4 .un)) h ?_, .inl rfl⟩
    exact sm_one <|
sm_as <|
sm_lt fun names1 h_names1 =>
sm_own (es' := [.d (.lst (List.map d_Stp flow)), .d (.str "move"), .own none (List.map Dt.str names1), .un]) (el_is (el_lst (ds := List.map Dt.str []) (ea_nil) (by simp)) (congrArg (List.map Dt.str) h_names1)) rfl <|
sm_as <|
sm_seq (env := fun (s : (List Str)) => [.d (.lst (List.map d_Stp flow)), .d (.str "move"), .own none (List.map Dt.str s), .un]) (sm_forL (xs := flow) (em := d_Stp) (env := fun (s : (List Str)) => [.d (.lst (List.map d_Stp flow)), .d (.str "move"), .own none (List.map Dt.str s), .un]) (en2 := fun (step_here3 : Stp) (s2 : (List Str)) => [.d (.lst (List.map d_Stp flow)), .d (.str "move"), .own none (List.map Dt.str s2), .d (d_Stp step_here3)]) (ei_list (ev_var (i := 0) rfl)) (wk_e <| wk_e <| wk_e <| wk_u <| wk_n) (fun step_here3 s2 => eg_name (vs := [3]) (by simp)) fun step_here3 s2 h_step_here3 => sm_one <|
sm_as <|
sm_bind fun b8 h_b8 =>
sm_seq (env := fun (s : (List Str)) => [.d (.lst (List.map d_Stp flow)), .d (.str "move"), .own none (List.map Dt.str s), .d (d_Stp step_here3)]) (sm_one <| sm_if (et_andC (et_test (ev_eqS (ev_ixR (ev_var (i := 3) rfl) (ev_int) (d_Stp_word _)) (ev_var (i := 1) rfl))) (fun _ => et_bnd fun t4 h_t4 => et_bnd fun b7 h_b7 => et_pure (et_andC (et_test (ev_nisO (em := Dt.str) (fun _ h => nomatch h) (ev_ixR (ev_var (i := 3) rfl) (ev_int) (d_Stp_at1O h_t4)))) (fun _ => et_bnd fun t5 h_t5 => et_bnd fun o6 h_o6 => et_pure (et_test (ev_borrow (es' := [.d (.lst (List.map d_Stp flow)), .d (.str "move"), .d (.lst (List.map Dt.str s2)), .d (d_Stp step_here3)]) ⟨.inr (.inl ⟨rfl, rfl⟩), .inr (.inl ⟨rfl, rfl⟩), .inr (.inr ⟨_, _, rfl, rfl⟩), .inr (.inl ⟨rfl, rfl⟩), trivial⟩ (ev_ninLS (xs := s2) (ev_some (em := Dt.str) h_o6 (ev_ixR (ev_var (i := 3) rfl) (ev_int) (d_Stp_at1O h_t5))) (ev_var (i := 2) rfl)) flat_bl))) h_b7)) h_b8) (fun hb =>
sm_as <|
sm_bind fun t9 h_t9 =>
sm_bind fun o10 h_o10 =>
sm_bind fun names11 h_names11 =>
sm_app (i := 2) (x := o10) (es' := [.d (.lst (List.map d_Stp flow)), .d (.str "move"), .own none (List.map Dt.str names11), .d (d_Stp step_here3)]) (em := Dt.str) rfl (ev_some (em := Dt.str) h_o10 (ev_ixR (ev_var (i := 3) rfl) (ev_int) (d_Stp_at1O h_t9))) h_names11 rfl <|
sm_nil <|
sm_some (sev_nx (wk_e <| wk_e <| wk_e <| wk_e <| wk_n))) (fun hb =>
sm_nil <|
sm_some (sev_nx (wk_e <| wk_e <| wk_e <| wk_e <| wk_n)))) fun s12 h_s12 =>
sm_nil <|
sm_some (sev_go (wk_e <| wk_e <| wk_e <| wk_u <| wk_n))) fun s13 h_s13 =>
sm_as <|
sm_frz (i := 2) (es' := [.d (.lst (List.map d_Stp flow)), .d (.str "move"), .d (.lst (List.map Dt.str s13)), .un]) rfl rfl <|
sm_some (sev_rt (ev_var (i := 2) rfl) (wk_uns rfl))⟩
def P_names_in_2 (A : Ads) (ds : List Dt) (d : Dt) : Prop := ∃ (flow : (List Stp)) (word : Unit) (r : (List Str)), ds = [.lst (List.map d_Stp flow), .str "set"] ∧ m_names_in_2 flow word = some r ∧ d = .lst (List.map Dt.str r)
set_option maxHeartbeats 4000000 in
theorem ok_names_in_2 (T : Top K mg A) : FnOk P w K mg base CX0 1 A.f_names_in A.d_names_in ["flow", "word"] (FSpec K (RD (P_names_in_2 A))) :=
  fn_D T.F_names_in sc_names_in (fun ds d h => by obtain ⟨flow, word, r, rfl, _, _⟩ := h; rfl) fun cdv A1 outer s H E hr => ⟨_, pss_cons (ps_set (i := 2) sc_names_in.nd rfl (by first | exact Or.inl rfl | exact Or.inr rfl) (pe_lst (pa_nil)))
 (pss_cons (ps_for PassesOwn.never rfl (pi_list (pv 0)) (pg_name (i := 3) sc_names_in.nd rfl (by first | exact Or.inl rfl | exact Or.inr rfl)) (pss_cons (ps_if (PW.pt (pw_and (pt_cmpR op_eq (pe_ix ix_tup (pv 3) (pe_int) (fun _ _ => rfl)) (pv 1) (nomark _)) (pw_and (pt_cmpR op_notN1 (pe_ix ix_tup (pv 3) (pe_int) (fun _ _ => rfl)) (pe_non) (nomark _)) (pw_and1 (pt_cmpR op_notIn_seq (pe_ix ix_tup (pv 3) (pe_int) (fun _ _ => rfl)) (pv 2) (by with_unfolding_all rfl)))))) (pss_cons (ps_expr (pe_bm PySem.F.plainAttrs_list PySem.F.slot_list_append PySem.F.type_list_append mt_append (pv 2) (pa_cons (pe_ix ix_tup (pv 3) (pe_int) (fun _ _ => rfl)) pa_nil)))
 (pss_nil)) (pss_nil))
 (pss_nil)))
 (pss_cons (ps_ret (pv 2))
 (pss_nil))), fun ds d h => by
    obtain ⟨flow, word, r, rfl, h, rfl⟩ := h
    unfold m_names_in_2 at h
    refine ⟨_, List.replicate 4 .un, sm_run (es := [.d (.lst (List.map d_Stp flow)), .d (.str "set"), .un, .un]) (oc := fun (r : (List Str)) => .rt (.lst (List.map Dt.str r)) (List.replicate 4 .un)) h ?_, .inl rfl⟩
    exact sm_one <|
sm_as <|
sm_lt fun names1 h_names1 =>
sm_own (es' := [.d (.lst (List.map d_Stp flow)), .d (.str "set"), .own none (List.map Dt.str names1), .un]) (el_is (el_lst (ds := List.map Dt.str []) (ea_nil) (by simp)) (congrArg (List.map Dt.str) h_names1)) rfl <|
sm_as <|
sm_seq (env := fun (s : (List Str)) => [.d (.lst (List.map d_Stp flow)), .d (.str "set"), .own none (List.map Dt.str s), .un]) (sm_forL (xs := flow) (em := d_Stp) (env := fun (s : (List Str)) => [.d (.lst (List.map d_Stp flow)), .d (.str "set"), .own none (List.map Dt.str s), .un]) (en2 := fun (step3 : Stp) (s2 : (List Str)) => [.d (.lst (List.map d_Stp flow)), .d (.str "set"), .own none (List.map Dt.str s2), .d (d_Stp step3)]) (ei_list (ev_var (i := 0) rfl)) (wk_e <| wk_e <| wk_e <| wk_u <| wk_n) (fun step3 s2 => eg_name (vs := [3]) (by simp)) fun step3 s2 h_step3 => sm_one <|
sm_as <|
sm_bind fun b8 h_b8 =>
sm_seq (env := fun (s : (List Str)) => [.d (.lst (List.map d_Stp flow)), .d (.str "set"), .own none (List.map Dt.str s), .d (d_Stp step3)]) (sm_one <| sm_if (et_andC (et_test (ev_eqS (ev_ixR (ev_var (i := 3) rfl) (ev_int) (d_Stp_word _)) (ev_var (i := 1) rfl))) (fun _ => et_bnd fun t4 h_t4 => et_bnd fun b7 h_b7 => et_pure (et_andC (et_test (ev_nisO (em := Dt.str) (fun _ h => nomatch h) (ev_ixR (ev_var (i := 3) rfl) (ev_int) (d_Stp_at1O h_t4)))) (fun _ => et_bnd fun t5 h_t5 => et_bnd fun o6 h_o6 => et_pure (et_test (ev_borrow (es' := [.d (.lst (List.map d_Stp flow)), .d (.str "set"), .d (.lst (List.map Dt.str s2)), .d (d_Stp step3)]) ⟨.inr (.inl ⟨rfl, rfl⟩), .inr (.inl ⟨rfl, rfl⟩), .inr (.inr ⟨_, _, rfl, rfl⟩), .inr (.inl ⟨rfl, rfl⟩), trivial⟩ (ev_ninLS (xs := s2) (ev_some (em := Dt.str) h_o6 (ev_ixR (ev_var (i := 3) rfl) (ev_int) (d_Stp_at1O h_t5))) (ev_var (i := 2) rfl)) flat_bl))) h_b7)) h_b8) (fun hb =>
sm_as <|
sm_bind fun t9 h_t9 =>
sm_bind fun o10 h_o10 =>
sm_bind fun names11 h_names11 =>
sm_app (i := 2) (x := o10) (es' := [.d (.lst (List.map d_Stp flow)), .d (.str "set"), .own none (List.map Dt.str names11), .d (d_Stp step3)]) (em := Dt.str) rfl (ev_some (em := Dt.str) h_o10 (ev_ixR (ev_var (i := 3) rfl) (ev_int) (d_Stp_at1O h_t9))) h_names11 rfl <|
sm_nil <|
sm_some (sev_nx (wk_e <| wk_e <| wk_e <| wk_e <| wk_n))) (fun hb =>
sm_nil <|
sm_some (sev_nx (wk_e <| wk_e <| wk_e <| wk_e <| wk_n)))) fun s12 h_s12 =>
sm_nil <|
sm_some (sev_go (wk_e <| wk_e <| wk_e <| wk_u <| wk_n))) fun s13 h_s13 =>
sm_as <|
sm_frz (i := 2) (es' := [.d (.lst (List.map d_Stp flow)), .d (.str "set"), .d (.lst (List.map Dt.str s13)), .un]) rfl rfl <|
sm_some (sev_rt (ev_var (i := 2) rfl) (wk_uns rfl))⟩
theorem sc_signals_of : FnScope ["flow"] ["flow"] (defScope (topS 4)) := ⟨rfl, rfl, rfl, by decide +kernel, rfl, by decide +kernel, by decide +kernel⟩
theorem b_signals_of (T : Top K mg A) : Binds K A.d_signals_of ["flow"] [] := T.F_signals_of.binds (ps := ["flow"]) fun _ _ _ _ _ _ us hl => match us, hl with | [_], _ => rfl
def P_signals_of (A : Ads) (ds : List Dt) (d : Dt) : Prop := ∃ (flow : (List Stp)) (r : (List Str)), ds = [.lst (List.map d_Stp flow)] ∧ m_signals_of flow = some r ∧ d = .lst (List.map Dt.str r)
set_option maxHeartbeats 4000000 in
theorem ok_signals_of (T : Top K mg A) : FnOk P w K mg base CX0 2 A.f_signals_of A.d_signals_of ["flow"] (FSpec K (RD (P_signals_of A))) :=
  fn_D T.F_signals_of sc_signals_of (fun ds d h => by obtain ⟨flow, r, rfl, _, _⟩ := h; rfl) fun cdv A1 outer s H E hr => ⟨_, pss_cons (ps_ret (pe_call (ok_names_in_2 T) (hr.mono (by decide)) (by rfl) T.g_names_in T.F_names_in.kp (b_names_in T) .nil pass0 (pa_cons (pv 0) (pa_cons (pe_str) (pa_nil)))))
 (pss_nil), fun ds d h => by
    obtain ⟨flow, r, rfl, h, rfl⟩ := h
    unfold m_signals_of at h
    refine ⟨_, List.replicate 1 .un, sm_run (es := [.d (.lst (List.map d_Stp flow))]) (oc := fun (r : (List Str)) => .rt (.lst (List.map Dt.str r)) (List.replicate 1 .un)) h ?_, .inl rfl⟩
    exact sm_one <|
sm_as <|
sm_bind fun t1 h_t1 =>
sm_some (sev_rt (ev_call (ea_cons (ev_var (i := 0) rfl) (ea_cons (ev_str) (ea_nil))) ⟨flow, (), t1, rfl, h_t1, rfl⟩) (wk_uns rfl))⟩
def P__law_each_2 (A : Ads) (ds : List Dt) (d : Dt) : Prop := ∃ (flow : (List Stp)) (word : Unit) (r : (List Str)), ds = [.lst (List.map d_Stp flow), .str "set"] ∧ m__law_each_2 flow word = some r ∧ d = .lst (List.map Dt.str r)
set_option maxHeartbeats 4000000 in
theorem ok__law_each_2 (T : Top K mg A) : FnOk P w K mg base CX0 1 A.f__law_each A.d__law_each ["_law_flow", "_law_word"] (FSpec K (RD (P__law_each_2 A))) :=
  fn_D T.F__law_each sc__law_each (fun ds d h => by obtain ⟨flow, word, r, rfl, _, _⟩ := h; rfl) fun cdv A1 outer s H E hr => ⟨_, pss_cons (ps_set (i := 2) sc__law_each.nd rfl (by first | exact Or.inl rfl | exact Or.inr rfl) (pe_lst (pa_nil)))
 (pss_cons (ps_for PassesOwn.never rfl (pi_list (pv 0)) (pg_name (i := 3) sc__law_each.nd rfl (by first | exact Or.inl rfl | exact Or.inr rfl)) (pss_cons (ps_if (PW.pt (pw_and (pt_cmpR op_eq (pe_ix ix_tup (pv 3) (pe_int) (fun _ _ => rfl)) (pv 1) (nomark _)) (pw_and (pt_cmpR op_notN1 (pe_ix ix_tup (pv 3) (pe_int) (fun _ _ => rfl)) (pe_non) (nomark _)) (pw_and1 (pt_cmpR op_notIn_seq (pe_ix ix_tup (pv 3) (pe_int) (fun _ _ => rfl)) (pv 2) (by with_unfolding_all rfl)))))) (pss_cons (ps_expr (pe_bm PySem.F.plainAttrs_list PySem.F.slot_list_append PySem.F.type_list_append mt_append (pv 2) (pa_cons (pe_ix ix_tup (pv 3) (pe_int) (fun _ _ => rfl)) pa_nil)))
 (pss_nil)) (pss_nil))
 (pss_nil)))
 (pss_cons (ps_ret (pv 2))
 (pss_nil))), fun ds d h => by
    obtain ⟨flow, word, r, rfl, h, rfl⟩ := h
    unfold m__law_each_2 at h
    refine ⟨_, List.replicate 4 .un, sm_run (es := [.d (.lst (List.map d_Stp flow)), .d (.str "set"), .un, .un]) (oc := fun (r : (List Str)) => .rt (.lst (List.map Dt.str r)) (List.replicate 4 .un)) h ?_, .inl rfl⟩
    exact sm_one <|
sm_as <|
sm_lt fun names1 h_names1 =>
sm_own (es' := [.d (.lst (List.map d_Stp flow)), .d (.str "set"), .own none (List.map Dt.str names1), .un]) (el_is (el_lst (ds := List.map Dt.str []) (ea_nil) (by simp)) (congrArg (List.map Dt.str) h_names1)) rfl <|
sm_as <|
sm_seq (env := fun (s : (List Str)) => [.d (.lst (List.map d_Stp flow)), .d (.str "set"), .own none (List.map Dt.str s), .un]) (sm_forL (xs := flow) (em := d_Stp) (env := fun (s : (List Str)) => [.d (.lst (List.map d_Stp flow)), .d (.str "set"), .own none (List.map Dt.str s), .un]) (en2 := fun (step_here3 : Stp) (s2 : (List Str)) => [.d (.lst (List.map d_Stp flow)), .d (.str "set"), .own none (List.map Dt.str s2), .d (d_Stp step_here3)]) (ei_list (ev_var (i := 0) rfl)) (wk_e <| wk_e <| wk_e <| wk_u <| wk_n) (fun step_here3 s2 => eg_name (vs := [3]) (by simp)) fun step_here3 s2 h_step_here3 => sm_one <|
sm_as <|
sm_bind fun b8 h_b8 =>
sm_seq (env := fun (s : (List Str)) => [.d (.lst (List.map d_Stp flow)), .d (.str "set"), .own none (List.map Dt.str s), .d (d_Stp step_here3)]) (sm_one <| sm_if (et_andC (et_test (ev_eqS (ev_ixR (ev_var (i := 3) rfl) (ev_int) (d_Stp_word _)) (ev_var (i := 1) rfl))) (fun _ => et_bnd fun t4 h_t4 => et_bnd fun b7 h_b7 => et_pure (et_andC (et_test (ev_nisO (em := Dt.str) (fun _ h => nomatch h) (ev_ixR (ev_var (i := 3) rfl) (ev_int) (d_Stp_at1O h_t4)))) (fun _ => et_bnd fun t5 h_t5 => et_bnd fun o6 h_o6 => et_pure (et_test (ev_borrow (es' := [.d (.lst (List.map d_Stp flow)), .d (.str "set"), .d (.lst (List.map Dt.str s2)), .d (d_Stp step_here3)]) ⟨.inr (.inl ⟨rfl, rfl⟩), .inr (.inl ⟨rfl, rfl⟩), .inr (.inr ⟨_, _, rfl, rfl⟩), .inr (.inl ⟨rfl, rfl⟩), trivial⟩ (ev_ninLS (xs := s2) (ev_some (em := Dt.str) h_o6 (ev_ixR (ev_var (i := 3) rfl) (ev_int) (d_Stp_at1O h_t5))) (ev_var (i := 2) rfl)) flat_bl))) h_b7)) h_b8) (fun hb =>
sm_as <|
sm_bind fun t9 h_t9 =>
sm_bind fun o10 h_o10 =>
sm_bind fun names11 h_names11 =>
sm_app (i := 2) (x := o10) (es' := [.d (.lst (List.map d_Stp flow)), .d (.str "set"), .own none (List.map Dt.str names11), .d (d_Stp step_here3)]) (em := Dt.str) rfl (ev_some (em := Dt.str) h_o10 (ev_ixR (ev_var (i := 3) rfl) (ev_int) (d_Stp_at1O h_t9))) h_names11 rfl <|
sm_nil <|
sm_some (sev_nx (wk_e <| wk_e <| wk_e <| wk_e <| wk_n))) (fun hb =>
sm_nil <|
sm_some (sev_nx (wk_e <| wk_e <| wk_e <| wk_e <| wk_n)))) fun s12 h_s12 =>
sm_nil <|
sm_some (sev_go (wk_e <| wk_e <| wk_e <| wk_u <| wk_n))) fun s13 h_s13 =>
sm_as <|
sm_frz (i := 2) (es' := [.d (.lst (List.map d_Stp flow)), .d (.str "set"), .d (.lst (List.map Dt.str s13)), .un]) rfl rfl <|
sm_some (sev_rt (ev_var (i := 2) rfl) (wk_uns rfl))⟩
def P_names_in_3 (A : Ads) (ds : List Dt) (d : Dt) : Prop := ∃ (flow : (List Stp)) (word : Unit) (r : (List Str)), ds = [.lst (List.map d_Stp flow), .str "hold"] ∧ m_names_in_3 flow word = some r ∧ d = .lst (List.map Dt.str r)
set_option maxHeartbeats 4000000 in
theorem ok_names_in_3 (T : Top K mg A) : FnOk P w K mg base CX0 1 A.f_names_in A.d_names_in ["flow", "word"] (FSpec K (RD (P_names_in_3 A))) :=
  fn_D T.F_names_in sc_names_in (fun ds d h => by obtain ⟨flow, word, r, rfl, _, _⟩ := h; rfl) fun cdv A1 outer s H E hr => ⟨_, pss_cons (ps_set (i := 2) sc_names_in.nd rfl (by first | exact Or.inl rfl | exact Or.inr rfl) (pe_lst (pa_nil)))
 (pss_cons (ps_for PassesOwn.never rfl (pi_list (pv 0)) (pg_name (i := 3) sc_names_in.nd rfl (by first | exact Or.inl rfl | exact Or.inr rfl)) (pss_cons (ps_if (PW.pt (pw_and (pt_cmpR op_eq (pe_ix ix_tup (pv 3) (pe_int) (fun _ _ => rfl)) (pv 1) (nomark _)) (pw_and (pt_cmpR op_notN1 (pe_ix ix_tup (pv 3) (pe_int) (fun _ _ => rfl)) (pe_non) (nomark _)) (pw_and1 (pt_cmpR op_notIn_seq (pe_ix ix_tup (pv 3) (pe_int) (fun _ _ => rfl)) (pv 2) (by with_unfolding_all rfl)))))) (pss_cons (ps_expr (pe_bm PySem.F.plainAttrs_list PySem.F.slot_list_append PySem.F.type_list_append mt_append (pv 2) (pa_cons (pe_ix ix_tup (pv 3) (pe_int) (fun _ _ => rfl)) pa_nil)))
 (pss_nil)) (pss_nil))
 (pss_nil)))
 (pss_cons (ps_ret (pv 2))
 (pss_nil))), fun ds d h => by
    obtain ⟨flow, word, r, rfl, h, rfl⟩ := h
    unfold m_names_in_3 at h
    refine ⟨_, List.replicate 4 .un, sm_run (es := [.d (.lst (List.map d_Stp flow)), .d (.str "hold"), .un, .un]) (oc := fun (r : (List Str)) => .rt (.lst (List.map Dt.str r)) (List.replicate 4 .un)) h ?_, .inl rfl⟩
    exact sm_one <|
sm_as <|
sm_lt fun names1 h_names1 =>
sm_own (es' := [.d (.lst (List.map d_Stp flow)), .d (.str "hold"), .own none (List.map Dt.str names1), .un]) (el_is (el_lst (ds := List.map Dt.str []) (ea_nil) (by simp)) (congrArg (List.map Dt.str) h_names1)) rfl <|
sm_as <|
sm_seq (env := fun (s : (List Str)) => [.d (.lst (List.map d_Stp flow)), .d (.str "hold"), .own none (List.map Dt.str s), .un]) (sm_forL (xs := flow) (em := d_Stp) (env := fun (s : (List Str)) => [.d (.lst (List.map d_Stp flow)), .d (.str "hold"), .own none (List.map Dt.str s), .un]) (en2 := fun (step3 : Stp) (s2 : (List Str)) => [.d (.lst (List.map d_Stp flow)), .d (.str "hold"), .own none (List.map Dt.str s2), .d (d_Stp step3)]) (ei_list (ev_var (i := 0) rfl)) (wk_e <| wk_e <| wk_e <| wk_u <| wk_n) (fun step3 s2 => eg_name (vs := [3]) (by simp)) fun step3 s2 h_step3 => sm_one <|
sm_as <|
sm_bind fun b8 h_b8 =>
sm_seq (env := fun (s : (List Str)) => [.d (.lst (List.map d_Stp flow)), .d (.str "hold"), .own none (List.map Dt.str s), .d (d_Stp step3)]) (sm_one <| sm_if (et_andC (et_test (ev_eqS (ev_ixR (ev_var (i := 3) rfl) (ev_int) (d_Stp_word _)) (ev_var (i := 1) rfl))) (fun _ => et_bnd fun t4 h_t4 => et_bnd fun b7 h_b7 => et_pure (et_andC (et_test (ev_nisO (em := Dt.str) (fun _ h => nomatch h) (ev_ixR (ev_var (i := 3) rfl) (ev_int) (d_Stp_at1O h_t4)))) (fun _ => et_bnd fun t5 h_t5 => et_bnd fun o6 h_o6 => et_pure (et_test (ev_borrow (es' := [.d (.lst (List.map d_Stp flow)), .d (.str "hold"), .d (.lst (List.map Dt.str s2)), .d (d_Stp step3)]) ⟨.inr (.inl ⟨rfl, rfl⟩), .inr (.inl ⟨rfl, rfl⟩), .inr (.inr ⟨_, _, rfl, rfl⟩), .inr (.inl ⟨rfl, rfl⟩), trivial⟩ (ev_ninLS (xs := s2) (ev_some (em := Dt.str) h_o6 (ev_ixR (ev_var (i := 3) rfl) (ev_int) (d_Stp_at1O h_t5))) (ev_var (i := 2) rfl)) flat_bl))) h_b7)) h_b8) (fun hb =>
sm_as <|
sm_bind fun t9 h_t9 =>
sm_bind fun o10 h_o10 =>
sm_bind fun names11 h_names11 =>
sm_app (i := 2) (x := o10) (es' := [.d (.lst (List.map d_Stp flow)), .d (.str "hold"), .own none (List.map Dt.str names11), .d (d_Stp step3)]) (em := Dt.str) rfl (ev_some (em := Dt.str) h_o10 (ev_ixR (ev_var (i := 3) rfl) (ev_int) (d_Stp_at1O h_t9))) h_names11 rfl <|
sm_nil <|
sm_some (sev_nx (wk_e <| wk_e <| wk_e <| wk_e <| wk_n))) (fun hb =>
sm_nil <|
sm_some (sev_nx (wk_e <| wk_e <| wk_e <| wk_e <| wk_n)))) fun s12 h_s12 =>
sm_nil <|
sm_some (sev_go (wk_e <| wk_e <| wk_e <| wk_u <| wk_n))) fun s13 h_s13 =>
sm_as <|
sm_frz (i := 2) (es' := [.d (.lst (List.map d_Stp flow)), .d (.str "hold"), .d (.lst (List.map Dt.str s13)), .un]) rfl rfl <|
sm_some (sev_rt (ev_var (i := 2) rfl) (wk_uns rfl))⟩
theorem sc_parts_of : FnScope ["flow"] ["flow"] (defScope (topS 5)) := ⟨rfl, rfl, rfl, by decide +kernel, rfl, by decide +kernel, by decide +kernel⟩
theorem b_parts_of (T : Top K mg A) : Binds K A.d_parts_of ["flow"] [] := T.F_parts_of.binds (ps := ["flow"]) fun _ _ _ _ _ _ us hl => match us, hl with | [_], _ => rfl
def P_parts_of (A : Ads) (ds : List Dt) (d : Dt) : Prop := ∃ (flow : (List Stp)) (r : (List Str)), ds = [.lst (List.map d_Stp flow)] ∧ m_parts_of flow = some r ∧ d = .lst (List.map Dt.str r)
set_option maxHeartbeats 4000000 in
theorem ok_parts_of (T : Top K mg A) : FnOk P w K mg base CX0 2 A.f_parts_of A.d_parts_of ["flow"] (FSpec K (RD (P_parts_of A))) :=
  fn_D T.F_parts_of sc_parts_of (fun ds d h => by obtain ⟨flow, r, rfl, _, _⟩ := h; rfl) fun cdv A1 outer s H E hr => ⟨_, pss_cons (ps_ret (pe_call (ok_names_in_3 T) (hr.mono (by decide)) (by rfl) T.g_names_in T.F_names_in.kp (b_names_in T) .nil pass0 (pa_cons (pv 0) (pa_cons (pe_str) (pa_nil)))))
 (pss_nil), fun ds d h => by
    obtain ⟨flow, r, rfl, h, rfl⟩ := h
    unfold m_parts_of at h
    refine ⟨_, List.replicate 1 .un, sm_run (es := [.d (.lst (List.map d_Stp flow))]) (oc := fun (r : (List Str)) => .rt (.lst (List.map Dt.str r)) (List.replicate 1 .un)) h ?_, .inl rfl⟩
    exact sm_one <|
sm_as <|
sm_bind fun t1 h_t1 =>
sm_some (sev_rt (ev_call (ea_cons (ev_var (i := 0) rfl) (ea_cons (ev_str) (ea_nil))) ⟨flow, (), t1, rfl, h_t1, rfl⟩) (wk_uns rfl))⟩
def P__law_each_3 (A : Ads) (ds : List Dt) (d : Dt) : Prop := ∃ (flow : (List Stp)) (word : Unit) (r : (List Str)), ds = [.lst (List.map d_Stp flow), .str "hold"] ∧ m__law_each_3 flow word = some r ∧ d = .lst (List.map Dt.str r)
set_option maxHeartbeats 4000000 in
theorem ok__law_each_3 (T : Top K mg A) : FnOk P w K mg base CX0 1 A.f__law_each A.d__law_each ["_law_flow", "_law_word"] (FSpec K (RD (P__law_each_3 A))) :=
  fn_D T.F__law_each sc__law_each (fun ds d h => by obtain ⟨flow, word, r, rfl, _, _⟩ := h; rfl) fun cdv A1 outer s H E hr => ⟨_, pss_cons (ps_set (i := 2) sc__law_each.nd rfl (by first | exact Or.inl rfl | exact Or.inr rfl) (pe_lst (pa_nil)))
 (pss_cons (ps_for PassesOwn.never rfl (pi_list (pv 0)) (pg_name (i := 3) sc__law_each.nd rfl (by first | exact Or.inl rfl | exact Or.inr rfl)) (pss_cons (ps_if (PW.pt (pw_and (pt_cmpR op_eq (pe_ix ix_tup (pv 3) (pe_int) (fun _ _ => rfl)) (pv 1) (nomark _)) (pw_and (pt_cmpR op_notN1 (pe_ix ix_tup (pv 3) (pe_int) (fun _ _ => rfl)) (pe_non) (nomark _)) (pw_and1 (pt_cmpR op_notIn_seq (pe_ix ix_tup (pv 3) (pe_int) (fun _ _ => rfl)) (pv 2) (by with_unfolding_all rfl)))))) (pss_cons (ps_expr (pe_bm PySem.F.plainAttrs_list PySem.F.slot_list_append PySem.F.type_list_append mt_append (pv 2) (pa_cons (pe_ix ix_tup (pv 3) (pe_int) (fun _ _ => rfl)) pa_nil)))
 (pss_nil)) (pss_nil))
 (pss_nil)))
 (pss_cons (ps_ret (pv 2))
 (pss_nil))), fun ds d h => by
    obtain ⟨flow, word, r, rfl, h, rfl⟩ := h
    unfold m__law_each_3 at h
    refine ⟨_, List.replicate 4 .un, sm_run (es := [.d (.lst (List.map d_Stp flow)), .d (.str "hold"), .un, .un]) (oc := fun (r : (List Str)) => .rt (.lst (List.map Dt.str r)) (List.replicate 4 .un)) h ?_, .inl rfl⟩
    exact sm_one <|
sm_as <|
sm_lt fun names1 h_names1 =>
sm_own (es' := [.d (.lst (List.map d_Stp flow)), .d (.str "hold"), .own none (List.map Dt.str names1), .un]) (el_is (el_lst (ds := List.map Dt.str []) (ea_nil) (by simp)) (congrArg (List.map Dt.str) h_names1)) rfl <|
sm_as <|
sm_seq (env := fun (s : (List Str)) => [.d (.lst (List.map d_Stp flow)), .d (.str "hold"), .own none (List.map Dt.str s), .un]) (sm_forL (xs := flow) (em := d_Stp) (env := fun (s : (List Str)) => [.d (.lst (List.map d_Stp flow)), .d (.str "hold"), .own none (List.map Dt.str s), .un]) (en2 := fun (step_here3 : Stp) (s2 : (List Str)) => [.d (.lst (List.map d_Stp flow)), .d (.str "hold"), .own none (List.map Dt.str s2), .d (d_Stp step_here3)]) (ei_list (ev_var (i := 0) rfl)) (wk_e <| wk_e <| wk_e <| wk_u <| wk_n) (fun step_here3 s2 => eg_name (vs := [3]) (by simp)) fun step_here3 s2 h_step_here3 => sm_one <|
sm_as <|
sm_bind fun b8 h_b8 =>
sm_seq (env := fun (s : (List Str)) => [.d (.lst (List.map d_Stp flow)), .d (.str "hold"), .own none (List.map Dt.str s), .d (d_Stp step_here3)]) (sm_one <| sm_if (et_andC (et_test (ev_eqS (ev_ixR (ev_var (i := 3) rfl) (ev_int) (d_Stp_word _)) (ev_var (i := 1) rfl))) (fun _ => et_bnd fun t4 h_t4 => et_bnd fun b7 h_b7 => et_pure (et_andC (et_test (ev_nisO (em := Dt.str) (fun _ h => nomatch h) (ev_ixR (ev_var (i := 3) rfl) (ev_int) (d_Stp_at1O h_t4)))) (fun _ => et_bnd fun t5 h_t5 => et_bnd fun o6 h_o6 => et_pure (et_test (ev_borrow (es' := [.d (.lst (List.map d_Stp flow)), .d (.str "hold"), .d (.lst (List.map Dt.str s2)), .d (d_Stp step_here3)]) ⟨.inr (.inl ⟨rfl, rfl⟩), .inr (.inl ⟨rfl, rfl⟩), .inr (.inr ⟨_, _, rfl, rfl⟩), .inr (.inl ⟨rfl, rfl⟩), trivial⟩ (ev_ninLS (xs := s2) (ev_some (em := Dt.str) h_o6 (ev_ixR (ev_var (i := 3) rfl) (ev_int) (d_Stp_at1O h_t5))) (ev_var (i := 2) rfl)) flat_bl))) h_b7)) h_b8) (fun hb =>
sm_as <|
sm_bind fun t9 h_t9 =>
sm_bind fun o10 h_o10 =>
sm_bind fun names11 h_names11 =>
sm_app (i := 2) (x := o10) (es' := [.d (.lst (List.map d_Stp flow)), .d (.str "hold"), .own none (List.map Dt.str names11), .d (d_Stp step_here3)]) (em := Dt.str) rfl (ev_some (em := Dt.str) h_o10 (ev_ixR (ev_var (i := 3) rfl) (ev_int) (d_Stp_at1O h_t9))) h_names11 rfl <|
sm_nil <|
sm_some (sev_nx (wk_e <| wk_e <| wk_e <| wk_e <| wk_n))) (fun hb =>
sm_nil <|
sm_some (sev_nx (wk_e <| wk_e <| wk_e <| wk_e <| wk_n)))) fun s12 h_s12 =>
sm_nil <|
sm_some (sev_go (wk_e <| wk_e <| wk_e <| wk_u <| wk_n))) fun s13 h_s13 =>
sm_as <|
sm_frz (i := 2) (es' := [.d (.lst (List.map d_Stp flow)), .d (.str "hold"), .d (.lst (List.map Dt.str s13)), .un]) rfl rfl <|
sm_some (sev_rt (ev_var (i := 2) rfl) (wk_uns rfl))⟩
theorem sc_law : FnScope ["_law_script", "_law_size", "_law_flow", "_law_k", "_law_kept", "_law_index", "_law_actual"] ["_law_script"] (defScope (topS 14)) := ⟨rfl, rfl, rfl, by decide +kernel, rfl, by decide +kernel, by decide +kernel⟩
theorem b_law (T : Top K mg A) : Binds K A.d_law ["_law_script"] [] := T.F_law.binds (ps := ["_law_script"]) fun _ _ _ _ _ _ us hl => match us, hl with | [_], _ => rfl
def P_law (A : Ads) (ds : List Dt) (d : Dt) : Prop := ∃ (script : (List Int)) (r : Bool), ds = [.lst (List.map Dt.int script)] ∧ m_law script = some r ∧ d = .bl r
set_option maxHeartbeats 4000000 in
theorem ok_law (T : Top K mg A) : FnG P w K mg base 3 A.f_law A.d_law ["_law_script"] (FSpec K (RD (P_law A))) :=
  fn_DG T.F_law sc_law (fun ds d h => by obtain ⟨script, r, rfl, _, _⟩ := h; rfl) fun cdv A1 outer s H E hgd hr => ⟨_, pss_cons (ps_set (i := 1) sc_law.nd rfl (by first | exact Or.inl rfl | exact Or.inr rfl) (pe_op op_mod (pe_call (ok__law_number T) (hr.mono (by decide)) (by rfl) T.g__law_number T.F__law_number.kp (b__law_number T) .nil pass0 (pa_cons (pv 0) (pa_cons (pe_int) (pa_nil)))) (pe_int)))
 (pss_cons (ps_set (i := 2) sc_law.nd rfl (by first | exact Or.inl rfl | exact Or.inr rfl) (pe_lst (pa_nil)))
 (pss_cons (ps_for PassesOwn.never rfl (pi_range1 (by rfl) T.z_range (pa_cons (pv 1) (pa_nil))) (pg_name (i := 3) sc_law.nd rfl (by first | exact Or.inl rfl | exact Or.inr rfl)) (pss_cons (ps_expr (pe_bm PySem.F.plainAttrs_list PySem.F.slot_list_append PySem.F.type_list_append mt_append (pv 2) (pa_cons (pe_call (ok__law_step T) (hr.mono (by decide)) (by rfl) T.g__law_step T.F__law_step.kp (b__law_step T) .nil pass0 (pa_cons (pe_call (ok__law_digits T) (hr.mono (by decide)) (by rfl) T.g__law_digits T.F__law_digits.kp (b__law_digits T) .nil pass0 (pa_cons (pv 0) (pa_cons (pe_op op_add (pv 3) (pe_int)) (pa_cons (pe_int) (pa_nil))))) (pa_cons (pv 3) (pa_cons (pv 1) (pa_nil))))) pa_nil)))
 (pss_nil)))
 (pss_cons (ps_set (i := 4) sc_law.nd rfl (by first | exact Or.inl rfl | exact Or.inr rfl) (pe_callB (call_repr hgd hr.units) (by rfl) T.z_repr (by rfl) (pa_cons (pv 2) pa_nil)))
 (pss_cons (ps_for PassesOwn.never rfl (pi_range1 (by rfl) T.z_range (pa_cons (pe_op op_add (pv 1) (pe_int)) (pa_nil))) (pg_name (i := 5) sc_law.nd rfl (by first | exact Or.inl rfl | exact Or.inr rfl)) (pss_cons (ps_set (i := 6) sc_law.nd rfl (by first | exact Or.inl rfl | exact Or.inr rfl) (pe_call (ok_landing T) (hr.mono (by decide)) (by rfl) T.g_landing T.F_landing.kp (b_landing T) .nil pass0 (pa_cons (pv 2) (pa_cons (pv 5) (pa_nil)))))
 (pss_cons (ps_if (PW.pt (pw_or (pt_not (pt_val (pe_call (ok__law_is_integer T) (hr.mono (by decide)) (by rfl) T.g__law_is_integer T.F__law_is_integer.kp (b__law_is_integer T) .nil pass0 (pa_cons (pv 6) (pa_nil))))) (pw_or1 (pt_cmpR op_ne (pv 6) (pe_call (ok__law_landing T) (hr.mono (by decide)) (by rfl) T.g__law_landing T.F__law_landing.kp (b__law_landing T) .nil pass0 (pa_cons (pv 2) (pa_cons (pv 5) (pa_nil)))) (nomark _))))) (pss_cons (ps_ret (pe_bl))
 (pss_nil)) (pss_nil))
 (pss_nil))))
 (pss_cons (ps_if (PW.pt (pw_or (pt_cmpR (op_neD hr.units) (pe_call (ok_points_of T) (hr.mono (by decide)) (by rfl) T.g_points_of T.F_points_of.kp (b_points_of T) .nil pass0 (pa_cons (pv 2) (pa_nil))) (pe_call (ok__law_each T) (hr.mono (by decide)) (by rfl) T.g__law_each T.F__law_each.kp (b__law_each T) .nil pass0 (pa_cons (pv 2) (pa_cons (pe_str) (pa_nil)))) (nomark _)) (pw_or1 (pt_cmpR (op_neD hr.units) (pe_call (ok_signals_of T) (hr.mono (by decide)) (by rfl) T.g_signals_of T.F_signals_of.kp (b_signals_of T) .nil pass0 (pa_cons (pv 2) (pa_nil))) (pe_call (ok__law_each_2 T) (hr.mono (by decide)) (by rfl) T.g__law_each T.F__law_each.kp (b__law_each T) .nil pass0 (pa_cons (pv 2) (pa_cons (pe_str) (pa_nil)))) (nomark _))))) (pss_cons (ps_ret (pe_bl))
 (pss_nil)) (pss_nil))
 (pss_cons (ps_ret (pe_and (pe_cmpR (op_eqD hr.units) (pe_call (ok_parts_of T) (hr.mono (by decide)) (by rfl) T.g_parts_of T.F_parts_of.kp (b_parts_of T) .nil pass0 (pa_cons (pv 2) (pa_nil))) (pe_call (ok__law_each_3 T) (hr.mono (by decide)) (by rfl) T.g__law_each T.F__law_each.kp (b__law_each T) .nil pass0 (pa_cons (pv 2) (pa_cons (pe_str) (pa_nil)))) (nomark _)) (pe_one (pe_cmpR op_eq (pe_callB (call_repr hgd hr.units) (by rfl) T.z_repr (by rfl) (pa_cons (pv 2) pa_nil)) (pv 4) (nomark _)))))
 (pss_nil))))))), fun ds d h => by
    obtain ⟨script, r, rfl, h, rfl⟩ := h
    unfold m_law at h
    refine ⟨_, List.replicate 7 .un, sm_run (es := [.d (.lst (List.map Dt.int script)), .un, .un, .un, .un, .un, .un]) (oc := fun (r : Bool) => .rt (.bl r) (List.replicate 7 .un)) h ?_, .inl rfl⟩
    exact sm_one <|
sm_as <|
sm_bind fun t1 h_t1 =>
sm_bind fun t2 h_t2 =>
sm_set (es' := [.d (.lst (List.map Dt.int script)), .d (.int t2), .un, .un, .un, .un, .un]) (ev_mod (ev_call (ea_cons (ev_var (i := 0) rfl) (ea_cons (ev_int) (ea_nil))) ⟨script, 0, t1, rfl, h_t1, rfl⟩) (ev_int) h_t2) rfl <|
sm_as <|
sm_lt fun flow3 h_flow3 =>
sm_own (es' := [.d (.lst (List.map Dt.int script)), .d (.int t2), .own none (List.map d_Stp flow3), .un, .un, .un, .un]) (el_is (el_lst (ds := List.map d_Stp []) (ea_nil) (by simp)) (congrArg (List.map d_Stp) h_flow3)) rfl <|
sm_as <|
sm_bind fun r4 h_r4 =>
sm_seq (env := fun (s : (List Stp)) => [.d (.lst (List.map Dt.int script)), .d (.int t2), .own none (List.map d_Stp s), .un, .un, .un, .un]) (sm_forL (xs := r4) (em := Dt.int) (env := fun (s : (List Stp)) => [.d (.lst (List.map Dt.int script)), .d (.int t2), .own none (List.map d_Stp s), .un, .un, .un, .un]) (en2 := fun (k6 : Int) (s5 : (List Stp)) => [.d (.lst (List.map Dt.int script)), .d (.int t2), .own none (List.map d_Stp s5), .d (.int k6), .un, .un, .un]) (ei_rng1 (ea_cons (ev_var (i := 1) rfl) (ea_nil)) h_r4) (wk_e <| wk_e <| wk_e <| wk_u <| wk_u <| wk_u <| wk_u <| wk_n) (fun k6 s5 => eg_name (vs := [3]) (by simp)) fun k6 s5 h_k6 => sm_one <|
sm_as <|
sm_bind fun t7 h_t7 =>
sm_bind fun t8 h_t8 =>
sm_bind fun flow9 h_flow9 =>
sm_app (i := 2) (x := t8.1) (es' := [.d (.lst (List.map Dt.int script)), .d (.int t2), .own none (List.map d_Stp flow9), .d (.int k6), .un, .un, .un]) (em := d_Stp) rfl (ev_callMF (P := P__law_step A) (el_call (ea_cons (ev_var (i := 0) rfl) (ea_cons (ev_add (ev_var (i := 3) rfl) (ev_int)) (ea_cons (ev_int) (ea_nil)))) ⟨script, k6 + 1, 1, t7, rfl, h_t7, rfl⟩) (ea_cons (ev_var (i := 3) rfl) (ea_cons (ev_var (i := 1) rfl) (ea_nil))) ⟨t7, k6, t2, t8, rfl, rfl, h_t8, rfl, rfl⟩) h_flow9 rfl <|
sm_nil <|
sm_some (sev_go (wk_e <| wk_e <| wk_e <| wk_u <| wk_u <| wk_u <| wk_u <| wk_n))) fun s10 h_s10 =>
sm_as <|
sm_frz (i := 2) (es' := [.d (.lst (List.map Dt.int script)), .d (.int t2), .d (.lst (List.map d_Stp s10)), .un, .un, .un, .un]) rfl rfl <|
sm_bind fun t11 h_t11 =>
sm_set (es' := [.d (.lst (List.map Dt.int script)), .d (.int t2), .d (.lst (List.map d_Stp s10)), .un, .d (.str t11), .un, .un]) (ev_repr (ev_var (i := 2) rfl) h_t11) rfl <|
sm_as <|
sm_bind fun r12 h_r12 =>
sm_thenF (env := fun (s : Unit) => [.d (.lst (List.map Dt.int script)), .d (.int t2), .d (.lst (List.map d_Stp s10)), .un, .d (.str t11), .un, .un]) (ed := fun r => .bl r) (ee := fun _ => List.replicate 7 .un) (sm_for (xs := r12) (em := Dt.int) (env := fun (s : Unit) => [.d (.lst (List.map Dt.int script)), .d (.int t2), .d (.lst (List.map d_Stp s10)), .un, .d (.str t11), .un, .un]) (en2 := fun (index14 : Int) (s13 : Unit) => [.d (.lst (List.map Dt.int script)), .d (.int t2), .d (.lst (List.map d_Stp s10)), .un, .d (.str t11), .d (.int index14), .un]) (ei_rng1 (ea_cons (ev_add (ev_var (i := 1) rfl) (ev_int)) (ea_nil)) h_r12) (wk_e <| wk_e <| wk_e <| wk_u <| wk_e <| wk_u <| wk_u <| wk_n) (fun index14 s13 => eg_name (vs := [5]) (by simp)) fun index14 s13 h_index14 => sm_one <|
sm_as <|
sm_bind fun t15 h_t15 =>
sm_set (es' := [.d (.lst (List.map Dt.int script)), .d (.int t2), .d (.lst (List.map d_Stp s10)), .un, .d (.str t11), .d (.int index14), .d (.int t15)]) (ev_call (ea_cons (ev_var (i := 2) rfl) (ea_cons (ev_var (i := 5) rfl) (ea_nil))) ⟨s10, index14, t15, rfl, h_t15, rfl⟩) rfl <|
sm_as <|
sm_bind fun t16 h_t16 =>
sm_bind fun b18 h_b18 =>
sm_if (et_orC (et_not (et_B (ev_call (ea_cons (ev_var (i := 6) rfl) (ea_nil)) ⟨t15, t16, rfl, h_t16, rfl⟩))) (fun _ => et_bnd fun t17 h_t17 => et_pure (et_test (ev_neI (ev_var (i := 6) rfl) (ev_call (ea_cons (ev_var (i := 2) rfl) (ea_cons (ev_var (i := 5) rfl) (ea_nil))) ⟨s10, index14, t17, rfl, h_t17, rfl⟩)))) h_b18) (fun hb =>
sm_as <|
sm_some (sev_rt (ev_bl) (wk_uns rfl))) (fun hb =>
sm_nil <|
sm_nil <|
sm_some (sev_go (wk_e <| wk_e <| wk_e <| wk_u <| wk_e <| wk_u <| wk_u <| wk_n)))) (fun s19 =>
sm_as <|
sm_bind fun t20 h_t20 =>
sm_bind fun t21 h_t21 =>
sm_bind fun t22 h_t22 =>
sm_bind fun b26 h_b26 =>
sm_if (et_orC (et_test (ev_neDC (ev_call (ea_cons (ev_var (i := 2) rfl) (ea_nil)) ⟨s10, t20, rfl, h_t20, rfl⟩) (ev_call (ea_cons (ev_var (i := 2) rfl) (ea_cons (ev_str) (ea_nil))) ⟨s10, (), t21, rfl, h_t21, rfl⟩) h_t22)) (fun _ => et_bnd fun t23 h_t23 => et_bnd fun t24 h_t24 => et_bnd fun t25 h_t25 => et_pure (et_test (ev_neDC (ev_call (ea_cons (ev_var (i := 2) rfl) (ea_nil)) ⟨s10, t23, rfl, h_t23, rfl⟩) (ev_call (ea_cons (ev_var (i := 2) rfl) (ea_cons (ev_str) (ea_nil))) ⟨s10, (), t24, rfl, h_t24, rfl⟩) h_t25))) h_b26) (fun hb =>
sm_as <|
sm_some (sev_rt (ev_bl) (wk_uns rfl))) (fun hb =>
sm_nil <|
sm_as <|
sm_bind fun t27 h_t27 =>
sm_bind fun t28 h_t28 =>
sm_bind fun t29 h_t29 =>
sm_bind fun b31 h_b31 =>
sm_some (sev_rt (ev_andVC (ev_eqDC (ev_call (ea_cons (ev_var (i := 2) rfl) (ea_nil)) ⟨s10, t27, rfl, h_t27, rfl⟩) (ev_call (ea_cons (ev_var (i := 2) rfl) (ea_cons (ev_str) (ea_nil))) ⟨s10, (), t28, rfl, h_t28, rfl⟩) h_t29) (fun _ => eb_bnd fun t30 h_t30 => eb_pure (ev_eqS (ev_repr (ev_var (i := 2) rfl) h_t30) (ev_var (i := 4) rfl))) h_b31) (wk_uns rfl)))) (fun _ => rfl)⟩
end G

namespace G
open PySem PySem.Spec L2 DL PyProof.Rows
def LawT (K : PySem.W.Frag) : Sp := FSpec K (RD fun ds d => ∃ (ns : List Int) (r : Bool), ds = [.lst (ns.map Dt.int)] ∧ m_law ns = some r ∧ d = .bl r)
set_option maxHeartbeats 0 in
theorem facts {w : World} {K : PySem.W.Frag} {h : Heap} {mg : Str → Option Value} {fa : Addr} (X : K.In h) (G : h.Ns mainGlobals mg) (hfa : mg ("law" : Str) = some (.ref fa)) (c : Hd.SaysX cks dfs exs K) :
    ∃ fd : FuncData, (∀ (s : Shared) (v : Value), BindsTo s fd ⟨[v], []⟩ [("_law_script", v)]) ∧ ∀ base : Heap, K.In base → base.Ns mainGlobals mg → FnG PySem.Challenge.rw_armwarrant_k59_names_and_landings_in_flo.prog w K mg base 3 fa fd ["_law_script"] (LawT K) := by
  obtain ⟨d0, F0⟩ := c.def_ 0 (d := df0) rfl
  obtain ⟨d1, F1⟩ := c.def_ 1 (d := df1) rfl
  obtain ⟨d2, F2⟩ := c.def_ 2 (d := df2) rfl
  obtain ⟨d3, F3⟩ := c.def_ 3 (d := df3) rfl
  obtain ⟨d4, F4⟩ := c.def_ 4 (d := df4) rfl
  obtain ⟨d5, F5⟩ := c.def_ 5 (d := df5) rfl
  obtain ⟨d6, F6⟩ := c.def_ 6 (d := df6) rfl
  obtain ⟨d7, F7⟩ := c.def_ 7 (d := df7) rfl
  obtain ⟨d8, F8⟩ := c.def_ 8 (d := df8) rfl
  obtain ⟨d9, F9⟩ := c.def_ 9 (d := df9) rfl
  obtain ⟨d10, F10⟩ := c.def_ 10 (d := df10) rfl
  obtain ⟨d11, F11⟩ := c.def_ 11 (d := df11) rfl
  obtain ⟨d12, F12⟩ := c.def_ 12 (d := df12) rfl
  have e := hfa.symm.trans (He.glo_ok X G (c.fact 0 12 (f := fun K => He.Fa.ok K (.glo "law")) rfl rfl))
  cases e
  have T : Top K mg { f__law_number := (He.ga K "_law_number"), d__law_number := d0, f__law_digits := (He.ga K "_law_digits"), d__law_digits := d1, f__law_digit := (He.ga K "_law_digit"), d__law_digit := d2, f__law_step := (He.ga K "_law_step"), d__law_step := d3, f_landing := (He.ga K "landing"), d_landing := d4, f__law_is_integer := (He.ga K "_law_is_integer"), d__law_is_integer := d5, f__law_landing := (He.ga K "_law_landing"), d__law_landing := d6, f_names_in := (He.ga K "names_in"), d_names_in := d7, f_points_of := (He.ga K "points_of"), d_points_of := d8, f__law_each := (He.ga K "_law_each"), d__law_each := d9, f_signals_of := (He.ga K "signals_of"), d_signals_of := d10, f_parts_of := (He.ga K "parts_of"), d_parts_of := d11, f_law := (He.ga K "law"), d_law := d12 } := {
    F__law_number := Hd.toFun (st := (topS 7)) F0,
    g__law_number := (He.glo_ok X G (c.fact 0 0 (f := fun K => He.Fa.ok K (.glo "_law_number")) rfl rfl)),
    F__law_digits := Hd.toFun (st := (topS 8)) F1,
    g__law_digits := (He.glo_ok X G (c.fact 0 1 (f := fun K => He.Fa.ok K (.glo "_law_digits")) rfl rfl)),
    F__law_digit := Hd.toFun (st := (topS 9)) F2,
    g__law_digit := (He.glo_ok X G (c.fact 0 2 (f := fun K => He.Fa.ok K (.glo "_law_digit")) rfl rfl)),
    F__law_step := Hd.toFun (st := (topS 11)) F3,
    g__law_step := (He.glo_ok X G (c.fact 0 3 (f := fun K => He.Fa.ok K (.glo "_law_step")) rfl rfl)),
    F_landing := Hd.toFun (st := (topS 1)) F4,
    g_landing := (He.glo_ok X G (c.fact 0 4 (f := fun K => He.Fa.ok K (.glo "landing")) rfl rfl)),
    F__law_is_integer := Hd.toFun (st := (topS 10)) F5,
    g__law_is_integer := (He.glo_ok X G (c.fact 0 5 (f := fun K => He.Fa.ok K (.glo "_law_is_integer")) rfl rfl)),
    F__law_landing := Hd.toFun (st := (topS 12)) F6,
    g__law_landing := (He.glo_ok X G (c.fact 0 6 (f := fun K => He.Fa.ok K (.glo "_law_landing")) rfl rfl)),
    F_names_in := Hd.toFun (st := (topS 2)) F7,
    g_names_in := (He.glo_ok X G (c.fact 0 7 (f := fun K => He.Fa.ok K (.glo "names_in")) rfl rfl)),
    F_points_of := Hd.toFun (st := (topS 3)) F8,
    g_points_of := (He.glo_ok X G (c.fact 0 8 (f := fun K => He.Fa.ok K (.glo "points_of")) rfl rfl)),
    F__law_each := Hd.toFun (st := (topS 13)) F9,
    g__law_each := (He.glo_ok X G (c.fact 0 9 (f := fun K => He.Fa.ok K (.glo "_law_each")) rfl rfl)),
    F_signals_of := Hd.toFun (st := (topS 4)) F10,
    g_signals_of := (He.glo_ok X G (c.fact 0 10 (f := fun K => He.Fa.ok K (.glo "signals_of")) rfl rfl)),
    F_parts_of := Hd.toFun (st := (topS 5)) F11,
    g_parts_of := (He.glo_ok X G (c.fact 0 11 (f := fun K => He.Fa.ok K (.glo "parts_of")) rfl rfl)),
    F_law := Hd.toFun (st := (topS 14)) F12,
    g_law := (He.glo_ok X G (c.fact 0 12 (f := fun K => He.Fa.ok K (.glo "law")) rfl rfl)),
    z_bool := He.free_ok X G (c.fact 0 13 (f := fun K => He.Fa.ok K (.free "bool")) rfl rfl),
    z_int := He.free_ok X G (c.fact 0 14 (f := fun K => He.Fa.ok K (.free "int")) rfl rfl),
    z_isinstance := He.free_ok X G (c.fact 0 15 (f := fun K => He.Fa.ok K (.free "isinstance")) rfl rfl),
    z_len := He.free_ok X G (c.fact 0 16 (f := fun K => He.Fa.ok K (.free "len")) rfl rfl),
    z_range := He.free_ok X G (c.fact 0 17 (f := fun K => He.Fa.ok K (.free "range")) rfl rfl),
    z_repr := He.free_ok X G (c.fact 0 18 (f := fun K => He.Fa.ok K (.free "repr")) rfl rfl) }
  have b := L2.FunD.bindsA (ps := ["_law_script"]) F12 fun _ _ _ _ _ _ us hl => match us, hl with | [_], _ => rfl
  exact ⟨d12, fun s v => b s [v] rfl, fun base _ _ => (ok_law T).imp fun vs H Q E h => h⟩
end G
open PySem PySem.W PySem.Calls PyProof.Rows
set_option maxRecDepth 100000 in
set_option maxHeartbeats 0 in
theorem PySem.Challenge.cw_armwarrant_k59_names_and_landings_in_flo_holds : PySem.Challenge.rw_armwarrant_k59_names_and_landings_in_flo.Holds := by
  w_on; o_law
  refine HandSHeadRun.head_any (r := OpenLaw.row PySem.Challenge.rw_armwarrant_k59_names_and_landings_in_flo) (q := _root_.G.qv) (H := _root_.G.hk) (ob := _root_.G.ob) (M := 40000) (loose := _root_.G.nms) (d := HandSHeadRun.topDef (OpenLaw.row PySem.Challenge.rw_armwarrant_k59_names_and_landings_in_flo).prog 14) (kwd := []) _root_.G.ob_eq (by kernel_rfl) (fun s => by kernel_rfl) _root_.G.hrun (by kernel_rfl) (by kernel_rfl) (by kernel_rfl) (by rfl) (by first | assumption | decide +kernel) (by decide +kernel) ⟨rfl, rfl, rfl, rfl, rfl, by decide +kernel⟩ ?hw ?hc
  case hw => w_witness2
  case hc =>
    refine DL.walk_G (l := PySem.Challenge.rw_armwarrant_k59_names_and_landings_in_flo) (n := 63) (k := 3) (x := "_law_script") rfl (by decide) (by kernel_rfl) ⟨rfl, by decide, by decide⟩ ?F
    intro w mg fa h Y G hmg0
    obtain ⟨K, KX, c⟩ := Y
    have hmg : mg ("law" : PySem.Str) = some (.ref fa) := by
      have e : (HandSHeadRun.topDef (OpenLaw.row PySem.Challenge.rw_armwarrant_k59_names_and_landings_in_flo).prog 14).name = ("law" : PySem.Str) := by kernel_rfl
      rw [← e]
      exact hmg0
    obtain ⟨fd, hb, hF⟩ := _root_.G.facts (w := w) KX G hmg c
    exact ⟨K, fd, _root_.G.LawT K, KX, hb, fun H a ns hl hb _ hS => DL.law_sp (_root_.G.law_true ns hl hb) hS, hF⟩
