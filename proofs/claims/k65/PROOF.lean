import PyProof.Rows.All
import Wide.All
import OpenK.AllK
import Wide.FinOn
import HandS.ForMost
import HandS.Wide
import HandS.Dict
import HandS.Small
import KE.KDictKeyed
import HandS.EndBits
import HandS.Gcd
import HandS.WideBits
import HandS.IsInst
import HandS.Flt
import HandS.More
import Flt.RightSqrt
import HandS.Style
import HandS.Steps
import HandS.MakeKwOnly
import HandS.TupAny
import KE.KExcSuper
import HandS.ExcField
import HandS.ExcOwn
import HandS.CallSlots
import HandS.WordsExc
import HandS.Comp
import PyProof.WalkInts
import HandS.SortKw
import HandS.ExcIs
import KE.KExcIs
import HandS.Codes
import KE.GoesEnumKw
import HandS.FStr
import HandS.Star
import HandS.StrMore
import HandS.TryOnly
import HandS.Strs
import HandS.HeadHook1
import HandS.Property
import KE.KStateDown
import HandS.Head0
import HandS.Head1
import HandS.Head2
import HandS.Head3
import HandS.HeadEnd
import HandS.HeadHook2
import PySem.Challenge.RW_armwarrant_k65_what_holds_up
set_option Elab.async false
set_option linter.all false
set_option maxRecDepth 100000
set_option maxHeartbeats 4000000
/-! Dl0: the end over a head that is run in the kernel; what the written part says, by one look at its heap -/
namespace Hd
open PySem PySem.Spec PyProof.Rows He
abbrev Ck : Type := PySem.W.Frag → Bool
/-- the keyword-only default x of the def at f, if it is an object -/
def kwAt (f : Str × Option Str) (x : Str) (K : PySem.W.Frag) : Addr := match K.lookup (fAd K f) with
  | some ⟨_, _, .func fd, _⟩ => (match fd.kwdefaults with
    | .ref D => (match PySem.W.nsIn K D x with
      | some (some (.ref a)) => a
      | _ => 0)
    | _ => 0)
  | _ => 0
/-- the module's name x is a plain tuple (without a dict of its own)-/
def ptupB (K : PySem.W.Frag) (a : Addr) : Bool := match K.lookup a with
  | some ⟨.type c, none, _, _⟩ => decide (c = "tuple")
  | _ => false
def nulB (K : PySem.W.Frag) (a : Addr) : Bool := match K.lookup a with
  | some ⟨.type c, _, .seq its _, _⟩ => decide (c = "tuple") && its.toList.isEmpty
  | _ => false
/-! ### own exceptions -/
abbrev FnY : Type := Option (Str × Str × Arguments × FuncBody × Scope × Addr × Addr)
def fnY (K : PySem.W.Frag) (f : Addr) : FnY := match K.lookup f with
  | some ⟨_, _, .func fd, _⟩ => some (fd.name, fd.qualname, fd.params, fd.body, fd.scope, fd.globals, fd.builtins)
  | _ => none
structure ExD where
  cls : Str
  qual : Str
  params : Arguments
  body : List Stmt
  scope : Scope
  meth : Str
  prop : Bool
def ExD.val (d : ExD) : FnY := some (d.meth, d.qual, d.params, .stmts d.body, d.scope, mainGlobals, builtinsNs)
/-- a property's getter -/
def prG (K : PySem.W.Frag) (p : Addr) : Addr := match PySem.W.recIn K p "property" with
  | some (.ref g :: _) => g
  | _ => 0
def exAd (K : PySem.W.Frag) (d : ExD) : Addr := if d.prop = true then prG K (ma K (ga K d.cls) d.meth) else ma K (ga K d.cls) d.meth
def prRB (K : PySem.W.Frag) (p : Addr) : Bool := match PySem.W.recIn K p "property" with
  | some (.ref _ :: _) => true
  | _ => false
theorem prR_ok {K : PySem.W.Frag} {p : Addr} (h : prRB K p = true) : ∃ rest, PySem.W.recIn K p "property" = some (.ref (prG K p) :: rest) := by
  unfold prRB at h
  unfold prG
  split at h
  · rename_i g rest e
    rw [e]
    exact ⟨rest, rfl⟩
  · cases h
def prB (K : PySem.W.Frag) (g : Addr) (q : Str) : Bool := PySem.W.keepIn K (.ref g) && match K.lookup g with
  | some ⟨_, _, .func fd, _⟩ => fd.closure.isEmpty && (PySem.W.codeIn K fd.code q && (dflB K fd.defaults [] && kwdB K fd.kwdefaults []))
  | _ => false
theorem pr_ok {K : PySem.W.Frag} {g : Addr} {d : ExD} (e : fnY K g = d.val) (h : prB K g d.qual = true) : ∃ fd, L2.FunD K d.meth d.qual d.params d.body d.scope [] [] g fd := by
  unfold prB at h
  rw [Bool.and_eq_true] at h
  obtain ⟨kp, h⟩ := h
  unfold fnY at e
  cases q : K.lookup g with
  | none => rw [q] at h; cases h
  | some o =>
    obtain ⟨oc, od, dt, osl⟩ := o
    rw [q] at h e
    cases dt with
    | func fd =>
      obtain ⟨n1, n2, n3, n4, n5, n6, n7, n8, n9, n10, n11, n12, n13, n14, n15⟩ := fd
      have e2 : (some (n1, n2, n3, n4, n5, n6, n15) : FnY) = some (d.meth, d.qual, d.params, FuncBody.stmts d.body, d.scope, mainGlobals, builtinsNs) := e
      simp only [Option.some.injEq, Prod.mk.injEq] at e2
      obtain ⟨h1, h2, h3, h4, h5, h6, h9⟩ := e2
      subst h1 h2 h3 h4 h5 h6 h9
      have h : (n7.isEmpty && (PySem.W.codeIn K n13 d.qual && (dflB K n8 [] && kwdB K n9 []))) = true := h
      simp only [Bool.and_eq_true] at h
      obtain ⟨a, b, c, f⟩ := h
      have a := List.isEmpty_iff.mp a
      subst a
      exact ⟨_, ⟨oc, od, n8, n9, n10, n11, n12, n13, n14, osl, rfl, q, b, dflB_ok c, kwdB_ok f⟩, kp⟩
    | _ => cases h
def cellB (K : PySem.W.Frag) (cc C : Addr) : Bool := match K.lookup cc with
  | some ⟨_, _, .cell (some (.ref D)), _⟩ => decide (D = C)
  | _ => false
def fileB (K : PySem.W.Frag) (file : Str) (a : Addr) : Bool := match K.lookup a with
  | some ⟨_, _, .fields (vs : Array Value), _⟩ => (match (vs[2]? : Option Value) with
    | some (Value.str f _) => file == f
    | _ => false)
  | _ => false
def exB (K : PySem.W.Frag) (file : Str) (C f : Addr) : Bool := match K.lookup f with
  | some ⟨_, _, .func fd, _⟩ => (match fd.closure, fd.defaults, fd.kwdefaults, fd.code with
    | [(x, cc)], .none, .none, .ref cda => decide (x = "__class__") && (PySem.W.codeIn K (.ref cda) fd.qualname && (cellB K cc C && fileB K file cda))
    | _, _, _, _ => false)
  | _ => false
def clsB (K : PySem.W.Frag) (C : Addr) : Bool := match K.lookup C with
  | some ⟨.type t, _, .cls cd, sl⟩ => (match cd.mro, sl.toList with
    | .ref D :: bm, [_, _, _, _, some (.builtin n), _] => decide (t = "type") && (decide (D = C) && (decide (n = "ValueError.__new__") && (!cd.hasDel && (cd.hasDict && PySem.HandSPX.refsVE bm))))
    | _, _ => false)
  | _ => false
theorem cls_ok' {K : PySem.W.Frag} {C : Addr} (h : clsB K C = true) : ∃ n' q N bs bm sn sub ab col dd k0 k1 k2 k3 k5, K.lookup C = some (excClassObj n' q C N bs bm true sn sub ab col dd k0 k1 k2 k3 k5 "ValueError.__new__") ∧ PySem.HandSPX.refsVE bm = true := by
  unfold clsB at h
  split at h
  · rename_i t dd cd sl ho
    split at h
    · rename_i D bm k0 k1 k2 k3 n k5 hm hs
      simp only [Bool.and_eq_true, decide_eq_true_eq, Bool.not_eq_true'] at h
      obtain ⟨rfl, rfl, rfl, hdel, hd, hr⟩ := h
      obtain ⟨nm, bs, mro, ns, qn, hdd, sn, sub, ab, col, del⟩ := cd
      dsimp only at hm hdel hd
      subst hm hdel hd
      have hsl : sl = #[k0, k1, k2, k3, some (.builtin "ValueError.__new__"), k5] := by
        obtain ⟨l⟩ := sl
        simp only at hs
        rw [hs]
      subst hsl
      exact ⟨nm, qn, ns, bs, bm, sn, sub, ab, col, dd, k0, k1, k2, k3, k5, ho, hr⟩
    · cases h
  · cases h
theorem cell_ok {K : PySem.W.Frag} {cc C : Addr} (h : cellB K cc C = true) : ∃ (cl : Value) (cld : Option Addr) (csl : Array (Option Value)), K.lookup cc = some ⟨cl, cld, .cell (some (.ref C)), csl⟩ := by
  unfold cellB at h
  split at h
  · rename_i D sl ho
    cases of_decide_eq_true h
    exact ⟨_, _, _, ho⟩
  · cases h
theorem file_ok {K : PySem.W.Frag} {file : Str} {a : Addr} (h : fileB K file a = true) : ∃ (ccl : Value) (cdd : Option Addr) (vs : Array Value) (ccs : Array (Option Value)) (f : Str) (tf : Tok), K.lookup a = some ⟨ccl, cdd, .fields vs, ccs⟩ ∧ vs[2]? = some (.str f tf) ∧ (file == f) = true := by
  unfold fileB at h
  split at h
  · rename_i vs sl ho
    split at h
    · rename_i f tf hf
      exact ⟨_, _, vs, _, f, tf, ho, hf, h⟩
    · cases h
  · cases h
theorem ex_ok {K : PySem.W.Frag} {file : Str} {C f : Addr} {d : ExD} (e : fnY K f = d.val) (h : exB K file C f = true) (hm : d.meth = "__init__" := by rfl) : ∃ (oc : Value) (od : Option Addr) (doc pm : Value) (an : Option Addr) (cda cc : Addr) (ct : Value) (osl : Array (Option Value)),
    K.lookup f = some ⟨oc, od, .func (PySem.W.ksFn "__init__" d.qual d.params d.body d.scope .none .none doc pm an (.ref cda) ct cc), osl⟩ ∧ PySem.W.codeIn K (.ref cda) d.qual = true ∧
    (∃ (ccl : Value) (cdd : Option Addr) (vs : Array Value) (ccs : Array (Option Value)) (f : Str) (tf : Tok), K.lookup cda = some ⟨ccl, cdd, .fields vs, ccs⟩ ∧ vs[2]? = some (.str f tf) ∧ (file == f) = true) ∧
    ∃ (cl : Value) (cld : Option Addr) (csl : Array (Option Value)), K.lookup cc = some ⟨cl, cld, .cell (some (.ref C)), csl⟩ := by
  obtain ⟨dc, dq, dp, db, ds, dm, dr⟩ := d
  have hm : dm = "__init__" := hm
  subst hm
  unfold exB at h
  unfold fnY at e
  cases q : K.lookup f with
  | none => rw [q] at h; cases h
  | some o =>
    obtain ⟨oc, od, dt, osl⟩ := o
    rw [q] at h e
    cases dt with
    | func fd =>
      obtain ⟨n1, n2, n3, n4, n5, n6, n7, n8, n9, n10, n11, n12, n13, n14, n15⟩ := fd
      have e2 : (some (n1, n2, n3, n4, n5, n6, n15) : FnY) = (some (("__init__" : Str), dq, dp, FuncBody.stmts db, ds, mainGlobals, builtinsNs) : FnY) := e
      simp only [Option.some.injEq, Prod.mk.injEq] at e2
      obtain ⟨h1, h2, h3, h4, h5, h6, h9⟩ := e2
      subst h1 h2 h3 h4 h5 h6 h9
      dsimp only at h
      split at h
      · rename_i x cc cda
        simp only [Bool.and_eq_true, decide_eq_true_eq] at h
        obtain ⟨rfl, hc, hcl, hfl⟩ := h
        exact ⟨oc, od, n10, n11, n12, cda, cc, n14, osl, rfl, hc, file_ok hfl, cell_ok hcl⟩
      · cases h
    | _ => cases h
/-! ### the look -/
abbrev AlX : Type := Bool × List FnW × List FnY
def obsX (cks : List (List Ck)) (fn : List DefD) (ex : List ExD) (K : PySem.W.Frag) : AlX := ((cks.all fun l => l.all fun f => f K) && fn.all fun d => d.ok K, fn.map fun d => fnW K d.at_, ex.map fun d => fnY K (exAd K d))
def valX (fn : List DefD) (ex : List ExD) : AlX := (true, fn.map DefD.val, ex.map ExD.val)
def SaysX (cks : List (List Ck)) (fn : List DefD) (ex : List ExD) (K : PySem.W.Frag) : Prop := obsX cks fn ex K = valX fn ex
def refsA (o : Obj) : List Addr := match o.data with
  | .func fd => refV fd.code ++ (refV fd.defaults ++ (refV fd.kwdefaults ++ fd.closure.map (·.2)))
  | .cls cd => [cd.ns]
  | .seq its _ => its.toList.flatMap refV
  | .dict es _ => es.toList.flatMap fun e => refV e.val
  | .fields vs => (match o.cls with
    | .type n => if n == "property" then vs.toList.flatMap refV else []
    | _ => [])
  | _ => []
def refsAt (g : Addr → Option Obj) (a : Addr) : List Addr := match g a with
  | some o => refsA o
  | none => []
def lev (g : Addr → Option Obj) : Nat → List Addr → List Addr
  | 0, as => as
  | n + 1, as => as ++ lev g n (as.flatMap (refsAt g))
def frX (g : Addr → Option Obj) (n : Nat) : PySem.W.Frag := frG g (cStatics :: lev g n [mainGlobals])
/-! the same, each part worked out once -/
def fcL {α : Type} : List Addr → (List Addr → α) → α
  | [], k => k []
  | a :: as, k => HandSHeadRun.frNat a fun a => fcL as fun as => k (a :: as)
theorem fcL_eq {α : Type} : ∀ (as : List Addr) (k : List Addr → α), fcL as k = k as
  | [], k => rfl
  | a :: as, k => by
    show HandSHeadRun.frNat a (fun a => fcL as fun as => k (a :: as)) = _
    rw [HandSHeadRun.frNat_eq, fcL_eq as]
def levF {α : Type} (g : Addr → Option Obj) : Nat → List Addr → (List Addr → α) → α
  | 0, as, k => k as
  | n + 1, as, k => fcL (as.flatMap (refsAt g)) fun bs => levF g n bs fun cs => k (as ++ cs)
theorem levF_eq {α : Type} (g : Addr → Option Obj) : ∀ (n : Nat) (as : List Addr) (k : List Addr → α), levF g n as k = k (lev g n as)
  | 0, as, k => rfl
  | n + 1, as, k => by
    show fcL (as.flatMap (refsAt g)) (fun bs => levF g n bs fun cs => k (as ++ cs)) = _
    rw [fcL_eq, levF_eq g n]
    rfl
def fcK {α : Type} (g : Addr → Option Obj) : List Addr → (PySem.W.Frag → α) → α
  | [], k => k []
  | a :: as, k => match g a with
    | some o => fcK g as fun r => k ((a, o) :: r)
    | none => fcK g as k
theorem fcK_eq {α : Type} (g : Addr → Option Obj) : ∀ (as : List Addr) (k : PySem.W.Frag → α), fcK g as k = k (frG g as)
  | [], k => rfl
  | a :: as, k => by
    unfold fcK frG
    rw [List.filterMap_cons]
    cases q : g a with
    | none => exact fcK_eq g as k
    | some o => exact fcK_eq g as fun r => k ((a, o) :: r)
def obsXG (n : Nat) (cks : List (List Ck)) (fn : List DefD) (ex : List ExD) (g : Addr → Option Obj) : AlX := levF g n [mainGlobals] fun as => fcL (cStatics :: as) fun as => fcK g as fun K => obsX cks fn ex K
theorem obsXG_fr {n : Nat} {cks : List (List Ck)} {fn : List DefD} {ex : List ExD} {g : Addr → Option Obj} : obsXG n cks fn ex g = obsX cks fn ex (frX g n) := by
  unfold obsXG
  rw [levF_eq, fcL_eq, fcK_eq]
  rfl
def hookX (n : Nat) (cks : List (List Ck)) (fn : List DefD) (ex : List ExD) : PySem.W.Hook where
  α := AlX
  obs := fun s => obsX cks fn ex (frX s.heap.get? n)
  val := fun _ => valX fn ex
  says := fun _ h => ∃ K : PySem.W.Frag, K.In h ∧ SaysX cks fn ex K
  of := fun _ _ e => ⟨_, frG_in, e⟩
  keeps := fun _ _ _ ⟨K, hK, c⟩ k => ⟨K, PySem.W.Frag.In.keeps hK k, c⟩
theorem obsXG_eq {n : Nat} {cks : List (List Ck)} {fn : List DefD} {ex : List ExD} {g : Addr → Option Obj} {s : Shared} (h : ∀ a, g a = s.heap.get? a) : obsXG n cks fn ex g = (hookX n cks fn ex).obs s := by
  have e : g = s.heap.get? := funext h
  rw [obsXG_fr, e] <;> rfl
end Hd

/-! DlH: the head's equation, put together from parts that are run one by one -/
namespace Hd
open PySem PySem.Spec PyProof.Rows He PySem.W HandSHeadRun
theorem map2 {α β γ : Type} {X : Option α} {f : α → β} {g : α → γ} {b : β} {c : γ} (h1 : X.map f = some b) (h2 : X.map g = some c) : X.map (fun x => (f x, g x)) = some (b, c) := by
  cases X with
  | none => cases h1
  | some x =>
    cases h1
    cases h2
    rfl
def RunA (r : OpenRow) (M : Nat) (w : World) : Prop := (wholeF (fun p => stepQ (denQ tabQ) p w) fenceQ M r.prog).map (fun x => looksF r.prog x.1.heap x.2.abs) = some true
def RunB (r : OpenRow) (q : Program) (M : Nat) (loose : List PySem.Str) (w : World) : Prop := (wholeF (fun p => stepQ (denQ tabQ) p w) fenceQ M r.prog).map (fun x => seenQ q loose (importedModules r.prog.main.body) (fun s => xlAt q [] s && recOk r.toRowW.records s) x.2.abs) = some (openGood q loose)
def RunC {α : Type} (r : OpenRow) (M : Nat) (ob : SharedT → α) (v : α) (w : World) : Prop := (wholeF (fun p => stepQ (denQ tabQ) p w) fenceQ M r.prog).map (fun x => ob x.2) = some v
def RunA1 (r : OpenRow) (M : Nat) (w : World) : Prop := (wholeF (fun p => stepQ (denQ tabQ) p w) fenceQ M r.prog).map (fun x => staticsOk (importedModules r.prog.main.body) x.1.heap x.2.abs.heap && namesBound r.prog x.2.abs.heap) = some true
def RunA2 (r : OpenRow) (M : Nat) (w : World) : Prop := (wholeF (fun p => stepQ (denQ tabQ) p w) fenceQ M r.prog).map (fun x => gensDone x.2.abs && laidKept x.1.heap x.2.abs.heap) = some true
theorem runA_of {r : OpenRow} {M : Nat} {w : World} (h1 : RunA1 r M w) (h2 : RunA2 r M w) : RunA r M w := by
  unfold RunA RunA1 RunA2 at *
  generalize wholeF (fun p => stepQ (denQ tabQ) p w) fenceQ M r.prog = X at *
  cases X with
  | none => cases h1
  | some x =>
    have h1 : (staticsOk (importedModules r.prog.main.body) x.1.heap x.2.abs.heap && namesBound r.prog x.2.abs.heap) = true := Option.some.inj h1
    have h2 : (gensDone x.2.abs && laidKept x.1.heap x.2.abs.heap) = true := Option.some.inj h2
    refine congrArg some ?_
    unfold looksF
    rw [Bool.and_eq_true] at h2
    show ((staticsOk (importedModules r.prog.main.body) x.1.heap x.2.abs.heap && namesBound r.prog x.2.abs.heap && gensDone x.2.abs) && laidKept x.1.heap x.2.abs.heap) = true
    rw [h1, h2.1, h2.2]
    rfl
theorem run_of {r : OpenRow} {q : Program} {H : Hook} {ob : SharedT → H.α} {M : Nat} {loose : List PySem.Str} {w : World} (h1 : RunA r M w) (h2 : RunB r q M loose w) (h3 : RunC r M ob (H.val w) w) : RunEqI r q H ob M loose w := map2 h1 (map2 h2 h3)
theorem obs_join {n : Nat} {c1 c2 : List (List Ck)} {f1 f2 : List DefD} {e1 e2 : List ExD} {g : Addr → Option Obj} (h1 : obsXG n c1 f1 e1 g = valX f1 e1) (h2 : obsXG n c2 f2 e2 g = valX f2 e2) : obsXG n (c1 ++ c2) (f1 ++ f2) (e1 ++ e2) g = valX (f1 ++ f2) (e1 ++ e2) := by
  rw [obsXG_fr] at h1 h2 ⊢
  unfold obsX valX at *
  have a1 := congrArg (fun z => z.1) h1
  have b1 := congrArg (fun z => z.2.1) h1
  have c1 := congrArg (fun z => z.2.2) h1
  have a2 := congrArg (fun z => z.1) h2
  have b2 := congrArg (fun z => z.2.1) h2
  have c2 := congrArg (fun z => z.2.2) h2
  simp only [Bool.and_eq_true] at a1 a2
  simp only at b1 b2 c1 c2
  rw [List.all_append, List.all_append, List.map_append, List.map_append, List.map_append, List.map_append, b1, b2, c1, c2, a1.1, a1.2, a2.1, a2.2]
  rfl
theorem runC_join {r : OpenRow} {M n : Nat} {c1 c2 : List (List Ck)} {f1 f2 : List DefD} {e1 e2 : List ExD} {w : World} (h1 : RunC r M (fun s => obsXG n c1 f1 e1 (getT s)) (valX f1 e1) w) (h2 : RunC r M (fun s => obsXG n c2 f2 e2 (getT s)) (valX f2 e2) w) :
    RunC r M (fun s => obsXG n (c1 ++ c2) (f1 ++ f2) (e1 ++ e2) (getT s)) (valX (f1 ++ f2) (e1 ++ e2)) w := by
  unfold RunC at *
  generalize wholeF (fun p => stepQ (denQ tabQ) p w) fenceQ M r.prog = X at *
  cases X with
  | none => cases h1
  | some x =>
    have h1 : obsXG n c1 f1 e1 (getT x.2) = valX f1 e1 := Option.some.inj h1
    have h2 : obsXG n c2 f2 e2 (getT x.2) = valX f2 e2 := Option.some.inj h2
    exact congrArg some (obs_join h1 h2)
end Hd

namespace G
open PySem PySem.Spec L2 PyProof.Rows
def topH (i : Nat) : Stmt := PySem.Challenge.pw_armwarrant_k65_what_holds_up.main.body.getD i (.Pass ⟨0, 0, 0, 0⟩)
def ck0 : List Hd.Ck := [fun K => He.Fa.ok K (.glo "_law_number"),
  fun K => He.Fa.ok K (.glo "_law_digits"),
  fun K => He.Fa.ok K (.glo "_law_digit"),
  fun K => He.Fa.ok K (.glo "_law_step"),
  fun K => He.Fa.ok K (.glo "_law_place"),
  fun K => He.Fa.ok K (.glo "_law_plan"),
  fun K => He.Fa.ok K (.glo "_law_more"),
  fun K => Hd.nulB K (Hd.kwAt ("Plan", some "__init__") "blocked" K),
  fun K => He.Fa.ok K (.glo "_law_landing"),
  fun K => He.Fa.ok K (.glo "_law_start"),
  fun K => He.Fa.ok K (.meth "Plan" "has_ended"),
  fun K => He.Fa.ok K (.meth "Plan" "all_ended"),
  fun K => He.Fa.ok K (.meth "Plan" "step_of"),
  fun K => He.Fa.ok K (.meth "Plan" "wanted"),
  fun K => He.Fa.ok K (.meth "Plan" "rest_of"),
  fun K => He.Fa.ok K (.meth "Plan" "is_clear"),
  fun K => He.Fa.ok K (.meth "Plan" "hindered_by"),
  fun K => He.Fa.ok K (.meth "Plan" "can_step"),
  fun K => He.Fa.ok K (.glo "first_stepper"),
  fun K => He.Fa.ok K (.glo "what_holds_up"),
  fun K => He.Fa.ok K (.glo "_law_at"),
  fun K => He.Fa.ok K (.glo "_law_wanted"),
  fun K => He.Fa.ok K (.glo "_law_clear"),
  fun K => He.Fa.ok K (.glo "_law_hinders"),
  fun K => He.Fa.ok K (.glo "_law_can")]
def ck1 : List Hd.Ck := [fun K => He.Fa.ok K (.glo "_law_holds"),
  fun K => He.Fa.ok K (.glo "_law_moved"),
  fun K => He.Fa.ok K (.glo "_law_outcomes"),
  fun K => He.Fa.ok K (.glo "_law_next"),
  fun K => He.Fa.ok K (.glo "law"),
  fun K => He.Fa.ok K (.glo "Plan"),
  fun K => He.Fa.ok K (.cls "Plan"),
  fun K => He.Fa.ok K (.mkr "Plan"),
  fun K => He.Fa.ok K (.noat "Plan" "flows"),
  fun K => He.Fa.ok K (.noat "Plan" "starts"),
  fun K => He.Fa.ok K (.noat "Plan" "blocks"),
  fun K => He.Fa.ok K (.free "int"),
  fun K => He.Fa.ok K (.free "len"),
  fun K => He.Fa.ok K (.free "list"),
  fun K => He.Fa.ok K (.free "range"),
  fun K => He.Fa.ok K (.free "tuple")]
def cks : List (List Hd.Ck) := [ck0, ck1]
def df0 : He.DefD := ⟨("_law_number", none), "_law_number", "_law_number", defArgs (topH 7), defBody (topH 7), defScope (topH 7), [], []⟩
def df1 : He.DefD := ⟨("_law_digits", none), "_law_digits", "_law_digits", defArgs (topH 8), defBody (topH 8), defScope (topH 8), [], []⟩
def df2 : He.DefD := ⟨("_law_digit", none), "_law_digit", "_law_digit", defArgs (topH 9), defBody (topH 9), defScope (topH 9), [], []⟩
def df3 : He.DefD := ⟨("_law_step", none), "_law_step", "_law_step", defArgs (topH 10), defBody (topH 10), defScope (topH 10), [], []⟩
def df4 : He.DefD := ⟨("_law_place", none), "_law_place", "_law_place", defArgs (topH 11), defBody (topH 11), defScope (topH 11), [], []⟩
def df5 : He.DefD := ⟨("_law_plan", none), "_law_plan", "_law_plan", defArgs (topH 12), defBody (topH 12), defScope (topH 12), [], []⟩
def df6 : He.DefD := ⟨("_law_more", none), "_law_more", "_law_more", defArgs (topH 23), defBody (topH 23), defScope (topH 23), [], []⟩
def df7 : He.DefD := ⟨("Plan", some "__init__"), "__init__", "Plan.__init__", defArgs (inClass (topH 5) 0), defBody (inClass (topH 5) 0), defScope (inClass (topH 5) 0), [], [("blocked", .adr (Hd.kwAt ("Plan", some "__init__") "blocked"))]⟩
def df8 : He.DefD := ⟨("_law_landing", none), "_law_landing", "_law_landing", defArgs (topH 13), defBody (topH 13), defScope (topH 13), [], []⟩
def df9 : He.DefD := ⟨("_law_start", none), "_law_start", "_law_start", defArgs (topH 14), defBody (topH 14), defScope (topH 14), [], []⟩
def df10 : He.DefD := ⟨("Plan", some "has_ended"), "has_ended", "Plan.has_ended", defArgs (inClass (topH 5) 4), defBody (inClass (topH 5) 4), defScope (inClass (topH 5) 4), [], []⟩
def df11 : He.DefD := ⟨("Plan", some "all_ended"), "all_ended", "Plan.all_ended", defArgs (inClass (topH 5) 5), defBody (inClass (topH 5) 5), defScope (inClass (topH 5) 5), [], []⟩
def df12 : He.DefD := ⟨("Plan", some "step_of"), "step_of", "Plan.step_of", defArgs (inClass (topH 5) 3), defBody (inClass (topH 5) 3), defScope (inClass (topH 5) 3), [], []⟩
def df13 : He.DefD := ⟨("Plan", some "wanted"), "wanted", "Plan.wanted", defArgs (inClass (topH 5) 7), defBody (inClass (topH 5) 7), defScope (inClass (topH 5) 7), [], []⟩
def df14 : He.DefD := ⟨("Plan", some "rest_of"), "rest_of", "Plan.rest_of", defArgs (inClass (topH 5) 6), defBody (inClass (topH 5) 6), defScope (inClass (topH 5) 6), [], []⟩
def df15 : He.DefD := ⟨("Plan", some "is_clear"), "is_clear", "Plan.is_clear", defArgs (inClass (topH 5) 1), defBody (inClass (topH 5) 1), defScope (inClass (topH 5) 1), [], []⟩
def df16 : He.DefD := ⟨("Plan", some "hindered_by"), "hindered_by", "Plan.hindered_by", defArgs (inClass (topH 5) 8), defBody (inClass (topH 5) 8), defScope (inClass (topH 5) 8), [], []⟩
def df17 : He.DefD := ⟨("Plan", some "can_step"), "can_step", "Plan.can_step", defArgs (inClass (topH 5) 9), defBody (inClass (topH 5) 9), defScope (inClass (topH 5) 9), [], []⟩
def df18 : He.DefD := ⟨("first_stepper", none), "first_stepper", "first_stepper", defArgs (topH 2), defBody (topH 2), defScope (topH 2), [], []⟩
def df19 : He.DefD := ⟨("what_holds_up", none), "what_holds_up", "what_holds_up", defArgs (topH 3), defBody (topH 3), defScope (topH 3), [], []⟩
def df20 : He.DefD := ⟨("_law_at", none), "_law_at", "_law_at", defArgs (topH 16), defBody (topH 16), defScope (topH 16), [], []⟩
def df21 : He.DefD := ⟨("_law_wanted", none), "_law_wanted", "_law_wanted", defArgs (topH 17), defBody (topH 17), defScope (topH 17), [], []⟩
def df22 : He.DefD := ⟨("_law_clear", none), "_law_clear", "_law_clear", defArgs (topH 15), defBody (topH 15), defScope (topH 15), [], []⟩
def df23 : He.DefD := ⟨("_law_hinders", none), "_law_hinders", "_law_hinders", defArgs (topH 18), defBody (topH 18), defScope (topH 18), [], []⟩
def df24 : He.DefD := ⟨("_law_can", none), "_law_can", "_law_can", defArgs (topH 19), defBody (topH 19), defScope (topH 19), [], []⟩
def df25 : He.DefD := ⟨("_law_holds", none), "_law_holds", "_law_holds", defArgs (topH 24), defBody (topH 24), defScope (topH 24), [], []⟩
def df26 : He.DefD := ⟨("_law_moved", none), "_law_moved", "_law_moved", defArgs (topH 20), defBody (topH 20), defScope (topH 20), [], []⟩
def df27 : He.DefD := ⟨("_law_outcomes", none), "_law_outcomes", "_law_outcomes", defArgs (topH 21), defBody (topH 21), defScope (topH 21), [], []⟩
def df28 : He.DefD := ⟨("_law_next", none), "_law_next", "_law_next", defArgs (topH 25), defBody (topH 25), defScope (topH 25), [], []⟩
def df29 : He.DefD := ⟨("law", none), "law", "law", defArgs (topH 26), defBody (topH 26), defScope (topH 26), [], []⟩
def dfl0 : List He.DefD := [df0, df1, df2, df3, df4, df5, df6, df7, df8, df9, df10, df11, df12, df13, df14, df15, df16, df17, df18, df19, df20, df21, df22, df23, df24]
def dfl1 : List He.DefD := [df25, df26, df27, df28, df29]
def dfs : List He.DefD := dfl0 ++ dfl1
def exs : List Hd.ExD := []
abbrev RR : PySem.W.OpenRow := PySem.W.OpenLaw.row PySem.Challenge.rw_armwarrant_k65_what_holds_up
abbrev qv : Program := PySem.W.view RR.prog [26]
def nms0 : List PySem.Str := [("_wall" : PySem.Str), ("__name__" : PySem.Str), ("first_stepper" : PySem.Str), ("what_holds_up" : PySem.Str), ("Plan" : PySem.Str), ("_law_number" : PySem.Str), ("_law_digits" : PySem.Str), ("_law_digit" : PySem.Str), ("_law_step" : PySem.Str), ("_law_place" : PySem.Str), ("_law_plan" : PySem.Str), ("_law_landing" : PySem.Str), ("_law_start" : PySem.Str), ("_law_clear" : PySem.Str), ("_law_at" : PySem.Str), ("_law_wanted" : PySem.Str), ("_law_hinders" : PySem.Str), ("_law_can" : PySem.Str), ("_law_moved" : PySem.Str), ("_law_outcomes" : PySem.Str), ("_law_over" : PySem.Str), ("_law_more" : PySem.Str), ("_law_holds" : PySem.Str), ("_law_next" : PySem.Str)]
def nms : List PySem.Str := nms0
abbrev hk : PySem.W.Hook := Hd.hookX 5 cks dfs exs
def ob (s : PySem.W.SharedT) : Hd.AlX := Hd.obsXG 5 cks dfs exs (HandSHeadRun.getT s)
theorem ob_eq (s : PySem.W.SharedT) : ob s = hk.obs s.abs := Hd.obsXG_eq (HandSHeadRun.getT_eq s)
set_option maxHeartbeats 0 in
theorem hrun (w : World) : HandSHeadRun.RunEq RR qv hk ob 40000 nms w := by
  intro os
  show _ = _
  kernel_rfl
end G

/-! DlN: dicts whose keys are tuples of tuples -/
namespace L2
open PySem PySem.Spec PyProof.Rows
mutual
/-- the value is the key -/
inductive NK (K : PySem.W.Frag) (H : Hp) : NestedKey → V → Prop
  | non : NK K H .none .non
  | bl (b : Bool) : NK K H (.num (if b = true then 1 else 0)) (.bl b)
  | int (i : Int) : NK K H (.num i) (.int i)
  | str (x : Str) : NK K H (.text x) (.str x)
  | tup {a : Addr} {vs : List V} {ks : List NestedKey} : SqT K H a vs → NKs K H ks vs → NK K H (.tup ks) (.ref a)
inductive NKs (K : PySem.W.Frag) (H : Hp) : List NestedKey → List V → Prop
  | nil : NKs K H [] []
  | cons {k : NestedKey} {v : V} {ks : List NestedKey} {vs : List V} : NK K H k v → NKs K H ks vs → NKs K H (k :: ks) (v :: vs)
end
section
variable {X : Cx} {pins : List (Addr × Obj)} {σ : L2.St} {H : Hp} {s : Shared}
mutual
theorem nk_is (I : Inv X pins σ H s) : ∀ {k : NestedKey} {v : V} {u : Value}, NK X.K H k v → RelV v u → NestedIs s.heap k u
  | _, _, u, .non, r => by
    cases (show u = Value.none from r)
    exact NestedIs.none
  | _, _, u, .bl b, r => by
    cases (show u = Value.bool b from r)
    exact NestedIs.bool rfl
  | _, _, u, .int i, r => by
    obtain ⟨t, rfl⟩ := (show ∃ t, u = Value.int i t from r)
    exact NestedIs.int i t
  | _, _, u, .str x, r => by
    obtain ⟨t, rfl⟩ := (show ∃ t, u = Value.str x t from r)
    exact NestedIs.text x t
  | _, _, u, .tup (a := a) h q, r => by
    cases (show u = Value.ref a from r)
    obtain ⟨its, rv, ⟨o, e, c, n, d⟩, _⟩ := I.tuple h
    exact NestedIs.tup e c d (by simpa using nks_are I q rv)
theorem nks_are (I : Inv X pins σ H s) : ∀ {ks : List NestedKey} {vs : List V} {us : List Value}, NKs X.K H ks vs → Vals vs us → NestedAll s.heap ks us
  | _, _, _, .nil, .nil => .nil
  | _, _, _, .cons h q, .cons r rs => .cons (nk_is I h r) (nks_are I q rs)
end
end
abbrev NX := List (NestedKey × Addr × V)
def nEnt (w : World) (y : NestedKey × Addr × Value) : DictEntry := ⟨y.1.hash w, .ref y.2.1, y.2.2⟩
abbrev NXV : NX → List (NestedKey × Addr × Value) → Prop := Paired fun p q => p.1 = q.1 ∧ p.2.1 = q.2.1 ∧ RelV p.2.2 q.2.2
/-- the dict at a: its keys, where they stand, their values -/
def NDφ (w : World) (a : Addr) (xs : NX) (h : Heap) : Prop := xs.length ≤ sizeLine ∧ (a == sysModules) = false ∧ ∃ ys, NXV xs ys ∧ ∃ o es ep, h.get? a = some o ∧ o.ExactDict ∧ o.data = .dict es ep ∧ es.toList = ys.map (nEnt w) ∧ (ys.map (·.1)).Nodup
def NDO (w : World) (a : Addr) (xs : NX) : HO := .ext (NDφ w a xs)
theorem ndφ_stay {w : World} {a : Addr} {xs : NX} {h h' : Heap} (R : NDφ w a xs h) (k : ∀ o, h.get? a = some o → h'.get? a = some o) : NDφ w a xs h' := by
  obtain ⟨z, hd, ys, r, o, es, ep, e, q⟩ := R
  exact ⟨z, hd, ys, r, o, es, ep, k o e, q⟩
theorem ndo_new {P : Program} {w : World} {H : Hp} {h : Heap} {a : Addr} {xs : NX} (R : NDφ w a xs h) : ObjOk P w H h a (NDO w a xs) := by
  have ⟨_, _, _, _, o, _, _, e, _⟩ := R
  exact ⟨R, ⟨o, e⟩, fun h1 h2 p k => ndφ_stay p k⟩
/-- its keys are known -/
def AllK (K : PySem.W.Frag) (H : Hp) (xs : NX) : Prop := ∀ x ∈ xs, NK K H x.1 (.ref x.2.1) ∧ x.1.depth ≤ 8
def hasN (xs : NX) (k : NestedKey) : Bool := xs.any fun x => decide (x.1 = k)
def putN (xs : NX) (k : NestedKey) (b : Addr) (v : V) : NX := if hasN xs k = true then xs.map fun x => if x.1 = k then (x.1, x.2.1, v) else x else xs ++ [(k, b, v)]
theorem nxv_any {k : NestedKey} : ∀ {xs : NX} {ys : List (NestedKey × Addr × Value)}, NXV xs ys → hasN xs k = (atKey ys k).isSome
  | _, _, .nil => rfl
  | x :: xs, y :: ys, .cons h r => by
    have ih := nxv_any (k := k) r
    unfold hasN at ih ⊢
    unfold atKey at ih ⊢
    rw [List.any_cons, List.find?_cons, ih, h.1]
    cases decide (y.1 = k) <;> rfl
theorem nxv_map {k : NestedKey} {v : V} {u : Value} (rv : RelV v u) : ∀ {xs : NX} {ys : List (NestedKey × Addr × Value)}, NXV xs ys → NXV (xs.map fun x => if x.1 = k then (x.1, x.2.1, v) else x) (ys.map (putAt k u))
  | _, _, .nil => .nil
  | _, _, .cons h r => by
    refine .cons ?_ (nxv_map rv r)
    unfold putAt
    obtain ⟨h1, h2, h3⟩ := h
    dsimp only
    rw [h1]
    split
    · exact ⟨rfl, h2, rv⟩
    · exact ⟨h1, h2, h3⟩
theorem nxv_snoc {k : NestedKey} {b : Addr} {v : V} {u : Value} (rv : RelV v u) : ∀ {xs : NX} {ys : List (NestedKey × Addr × Value)}, NXV xs ys → NXV (xs ++ [(k, b, v)]) (ys ++ [(k, b, u)])
  | _, _, .nil => .cons ⟨rfl, rfl, rv⟩ .nil
  | _, _, .cons h r => .cons h (nxv_snoc rv r)
theorem nxv_put {k : NestedKey} {b : Addr} {v : V} {u : Value} {xs : NX} {ys : List (NestedKey × Addr × Value)} (r : NXV xs ys) (rv : RelV v u) : NXV (putN xs k b v) (storedH ys k b u) := by
  unfold putN storedH
  rw [nxv_any (k := k) r]
  split
  · exact nxv_map rv r
  · exact nxv_snoc rv r
theorem putN_len {xs : NX} {k : NestedKey} {b : Addr} {v : V} : (putN xs k b v).length ≤ xs.length + 1 := by
  unfold putN
  split
  · rw [List.length_map]; omega
  · rw [List.length_append, List.length_singleton]; omega
section
variable {X : Cx} {pins : List (Addr × Obj)} {σ : L2.St} {H : Hp} {s : Shared} {a : Addr} {xs : NX}
theorem nd_at (I : Inv X pins σ H s) (e : H a = some (NDO X.w a xs)) (hk : AllK X.K H xs) : xs.length ≤ sizeLine ∧ (a == sysModules) = false ∧ ∃ ys, NXV xs ys ∧ s.heap.DictOfH (nestedKind X.prog X.w) a ys := by
  obtain ⟨z, hd, ys, r, o, es, ep, h1, h2, h3, h4, h5⟩ := (I.hok a _ e).1
  refine ⟨z, hd, ys, r, o, es, ep, h1, h2, h3, h4, ?_, h5⟩
  have all : ∀ {xs : NX} {ys : List (NestedKey × Addr × Value)}, NXV xs ys → AllK X.K H xs → ∀ y ∈ ys, (nestedKind X.prog X.w).is s.heap y.1 y.2.1 := by
    intro xs ys r
    induction r with
    | nil => intro _ y hy; cases hy
    | @cons p q ps qs hq t ih =>
      intro hk y hy
      rcases List.mem_cons.mp hy with e | hy
      · subst e
        obtain ⟨k1, k2⟩ := hk _ List.mem_cons_self
        rw [hq.1, hq.2.1] at k1
        rw [hq.1] at k2
        exact ⟨nk_is I k1 rfl, k2⟩
      · exact ih (fun x hx => hk x (List.mem_cons_of_mem _ hx)) y hy
  exact all r hk
/-- k in d, k not in d -/
def rNin (K : PySem.W.Frag) (w : World) (neg : Bool) : V → V → Hp → VK → Prop := fun x y H Q => ∃ (k : NestedKey) (b a : Addr) (xs : NX), x = .ref b ∧ NK K H k (.ref b) ∧ k.depth ≤ 8 ∧ y = .ref a ∧ H a = some (NDO w a xs) ∧ AllK K H xs ∧ Q (.bl (if neg then !hasN xs k else hasN xs k)) H
theorem nroom {k : Nat} (hr : Room k X.A) : (nestedKind X.prog X.w).room X.A.in1 := by
  have := hr.units
  show X.A.units + 1 + 8 < cLine
  omega
theorem or_nin {j : Nat} (hr : Room j X.A) : OpR X (compareOp .In) (rNin X.K X.w false) := by
  intro pins s σ H x y v u Q I rx ry h
  obtain ⟨k, b, a, xs, rfl, hk, kd, rfl, ha, hx, q⟩ := h
  cases (show v = Value.ref b from rx)
  cases (show u = Value.ref a from ry)
  obtain ⟨z, hd, ys, r, dd⟩ := nd_at I ha hx
  refine wpAny_in_heap (nroom hr) ⟨nk_is I hk rfl, kd⟩ hd dd ?_
  rw [← nxv_any r]
  exact ⟨.bl (hasN xs k), H, I.tok _, rfl, q⟩
theorem or_nnin {j : Nat} (hr : Room j X.A) : OpR X (compareOp .NotIn) (rNin X.K X.w true) := by
  intro pins s σ H x y v u Q I rx ry h
  obtain ⟨k, b, a, xs, rfl, hk, kd, rfl, ha, hx, q⟩ := h
  cases (show v = Value.ref b from rx)
  cases (show u = Value.ref a from ry)
  obtain ⟨z, hd, ys, r, dd⟩ := nd_at I ha hx
  refine notIn_keyed (knd := nestedKind X.prog X.w) (kvs := pairsH ys) (nroom hr) ⟨nk_is I hk rfl, kd⟩ hd ⟨ys, dd, rfl⟩ ?_
  rw [valueAt_pairsH, Option.isSome_map, ← nxv_any r]
  exact ⟨.bl (!hasN xs k), H, I.tok _, rfl, q⟩
/-- d[k] = v -/
def rSetN (K : PySem.W.Frag) (w : World) : TSet := fun o i v H Q => ∃ (a : Addr) (xs : NX) (k : NestedKey) (b : Addr), o = .ref a ∧ H a = some (NDO w a xs) ∧ AllK K H xs ∧ i = .ref b ∧ NK K H k (.ref b) ∧ k.depth ≤ 8 ∧ xs.length < sizeLine ∧ Q (upd H a (NDO w a (putN xs k b v)))
theorem set_nd {j : Nat} (hr : Room j X.A) : PSet X (rSetN X.K X.w) := by
  intro pins s σ H o i v ov iv u Q I ro ri rv h
  obtain ⟨a, xs, k, b, rfl, ha, hx, rfl, hk, kd, hl, q⟩ := h
  cases (show ov = Value.ref a from ro)
  cases (show iv = Value.ref b from ri)
  obtain ⟨z, hd, ys, r, dd⟩ := nd_at I ha hx
  have hz : ys.length ≤ sizeLine := by rw [← Paired.length r]; exact z
  refine wpAny_setItem_heap (hsz := hz) (nroom hr) ⟨nk_is I hk rfl, kd⟩ dd fun h' dd' hs => ?_
  obtain ⟨ob, es, ep, e1, e2, e3, e4, _, e5⟩ := dd'
  have l := putN_len (xs := xs) (k := k) (b := b) (v := v)
  exact ⟨_, d_write I (by rw [ha]; exact True.intro) hs ⟨ob, e1⟩ (ndo_new ⟨by omega, hd, _, nxv_put r rv, ob, es, ep, e1, e2, e3, e4, e5⟩), q⟩
/-- {} -/
def tDNewN (w : World) : TE := fun _ H Q => ∀ p, H p = none → Q (.ref p) (upd H p (NDO w p []))
theorem pe_dnewN {pos : Pos} : PE X (.Dict [] [] pos) (tDNewN X.w) := ⟨fun pins s σ H Q I h =>
  wpAny_Dict_empty ⟨.ref s.heap.objs.size, _, I.laid (a := s.heap.objs.size) (o := NDO X.w s.heap.objs.size []) (t' := s.toks) (fun _ _ q => Heap.get?_push_of_some _ q) (Nat.le_refl _)
    (ndo_new ⟨Nat.zero_le _, beq_eq_false_iff_ne.mpr (Ne.symm (Nat.ne_of_lt I.big)), [], .nil, _, #[], 0, Heap.get?_push_size _ rfl, ⟨rfl, rfl, rfl⟩, rfl, rfl, List.nodup_nil⟩), rfl, h _ (I.hok.fresh (Nat.le_refl _))⟩⟩
end
end L2

/-! Dl: what a def does, told over data (Dt) and slots (Sl); heaps are dealt with once, here. -/
namespace DL
open PySem L2

/-! ### data -/
inductive Dt where
  | non | bl (b : Bool) | int (i : Int) | str (s : Str)
  | ty (n : String)
  | tup (xs : List Dt) | lst (xs : List Dt) | obj (C : Addr) (fs : List (Str × Dt))
  | dic (w : World) (kvs : List (Dt × Dt))
mutual
/-- data as a key -/
def keyD : Dt → Option NestedKey
  | .non => some .none
  | .bl b => some (.num (if b = true then 1 else 0))
  | .int i => some (.num i)
  | .str s => some (.text s)
  | .tup xs => (keyDs xs).map .tup
  | _ => none
def keyDs : List Dt → Option (List NestedKey)
  | [] => some []
  | d :: ds => (keyD d).bind fun k => (keyDs ds).map fun ks => k :: ks
end

mutual
inductive Rep (K : PySem.W.Frag) (H : Hp) : V → Dt → Prop
  | non : Rep K H .non .non
  | bl (b : Bool) : Rep K H (.bl b) (.bl b)
  | int (i : Int) : Rep K H (.int i) (.int i)
  | str (s : Str) : Rep K H (.str s) (.str s)
  | ty (n : String) : Rep K H (.ty n) (.ty n)
  | tup {a : Addr} {xs : List V} {ds : List Dt} : SqT K H a xs → Reps K H xs ds → Rep K H (.ref a) (.tup ds)
  | lst {a : Addr} {xs : List V} {ds : List Dt} : SqL K H a xs → Reps K H xs ds → Rep K H (.ref a) (.lst ds)
  | obj {a C dx : Addr} {fs : List (Str × V)} {gs : List (Str × Dt)} : H a = some (.ins C dx fs) → RepF K H fs gs → Rep K H (.ref a) (.obj C gs)
  | dic {a : Addr} {w : World} {xs : NX} {kvs : List (Dt × Dt)} : H a = some (NDO w a xs) → RepK K H xs kvs → Rep K H (.ref a) (.dic w kvs)
inductive Reps (K : PySem.W.Frag) (H : Hp) : List V → List Dt → Prop
  | nil : Reps K H [] []
  | cons {v : V} {d : Dt} {vs : List V} {ds : List Dt} : Rep K H v d → Reps K H vs ds → Reps K H (v :: vs) (d :: ds)
inductive RepF (K : PySem.W.Frag) (H : Hp) : List (Str × V) → List (Str × Dt) → Prop
  | nil : RepF K H [] []
  | cons {f : Str} {v : V} {d : Dt} {vs : List (Str × V)} {ds : List (Str × Dt)} : Rep K H v d → RepF K H vs ds → RepF K H ((f, v) :: vs) ((f, d) :: ds)
inductive RepK (K : PySem.W.Frag) (H : Hp) : NX → List (Dt × Dt) → Prop
  | nil : RepK K H [] []
  | cons {k : NestedKey} {b : Addr} {v : V} {kd d : Dt} {xs : NX} {kvs : List (Dt × Dt)} : keyD kd = some k → k.depth ≤ 8 → Rep K H (.ref b) kd → Rep K H v d → RepK K H xs kvs → RepK K H ((k, b, v) :: xs) ((kd, d) :: kvs)
end

theorem sqT_mono {K : PySem.W.Frag} {H H' : Hp} {a : Addr} {xs : List V} (e : Same H H') (h : SqT K H a xs) : SqT K H' a xs := by
  rcases h with (h | ⟨o, h⟩) | h
  · exact .inl (.inl (e _ _ h))
  · exact .inl (.inr ⟨o, e _ _ h⟩)
  · exact .inr h

mutual
theorem Rep.mono {K : PySem.W.Frag} {H H' : Hp} (e : Same H H') : ∀ {v : V} {d : Dt}, Rep K H v d → Rep K H' v d
  | _, _, .non => .non
  | _, _, .bl b => .bl b
  | _, _, .int i => .int i
  | _, _, .str s => .str s
  | _, _, .ty n => .ty n
  | _, _, .tup h r => .tup (sqT_mono e h) (Reps.mono e r)
  | _, _, .lst h r => .lst (e.seq h) (Reps.mono e r)
  | _, _, .obj h r => .obj (e _ _ h) (RepF.mono e r)
  | _, _, .dic h r => .dic (e _ _ h) (RepK.mono e r)
theorem Reps.mono {K : PySem.W.Frag} {H H' : Hp} (e : Same H H') : ∀ {vs : List V} {ds : List Dt}, Reps K H vs ds → Reps K H' vs ds
  | _, _, .nil => .nil
  | _, _, .cons h r => .cons (Rep.mono e h) (Reps.mono e r)
theorem RepF.mono {K : PySem.W.Frag} {H H' : Hp} (e : Same H H') : ∀ {vs : List (Str × V)} {ds : List (Str × Dt)}, RepF K H vs ds → RepF K H' vs ds
  | _, _, .nil => .nil
  | _, _, .cons h r => .cons (Rep.mono e h) (RepF.mono e r)
theorem RepK.mono {K : PySem.W.Frag} {H H' : Hp} (e : Same H H') : ∀ {xs : NX} {kvs : List (Dt × Dt)}, RepK K H xs kvs → RepK K H' xs kvs
  | _, _, .nil => .nil
  | _, _, .cons a b c d r => .cons a b (Rep.mono e c) (Rep.mono e d) (RepK.mono e r)
end
theorem Reps.length {K : PySem.W.Frag} {H : Hp} : ∀ {vs : List V} {ds : List Dt}, Reps K H vs ds → vs.length = ds.length
  | _, _, .nil => rfl
  | _, _, .cons _ r => congrArg (· + 1) r.length
theorem Reps.get {K : PySem.W.Frag} {H : Hp} : ∀ {vs : List V} {ds : List Dt} {i : Nat} {d : Dt}, Reps K H vs ds → ds[i]? = some d → ∃ v, vs[i]? = some v ∧ Rep K H v d
  | _, _, _, _, .nil, e => by simp at e
  | _, _, 0, _, .cons h r, e => by simp at e; subst e; exact ⟨_, rfl, h⟩
  | _, _, i + 1, _, .cons h r, e => by
    obtain ⟨v, h1, h2⟩ := Reps.get (i := i) r (by simpa using e)
    exact ⟨v, by simpa using h1, h2⟩
theorem Reps.get' {K : PySem.W.Frag} {H : Hp} : ∀ {vs : List V} {ds : List Dt} {i : Nat} {v : V}, Reps K H vs ds → vs[i]? = some v → ∃ d, ds[i]? = some d ∧ Rep K H v d
  | _, _, _, _, .nil, e => by simp at e
  | _, _, 0, _, .cons h r, e => by simp at e; subst e; exact ⟨_, rfl, h⟩
  | _, _, i + 1, _, .cons h r, e => by
    obtain ⟨v, h1, h2⟩ := Reps.get' (i := i) r (by simpa using e)
    exact ⟨v, by simpa using h1, h2⟩
theorem Reps.append {K : PySem.W.Frag} {H : Hp} : ∀ {vs ws : List V} {ds es : List Dt}, Reps K H vs ds → Reps K H ws es → Reps K H (vs ++ ws) (ds ++ es)
  | _, _, _, _, .nil, s => s
  | _, _, _, _, .cons h r, s => .cons h (Reps.append r s)
theorem Reps.set {K : PySem.W.Frag} {H : Hp} {v : V} {d : Dt} (hv : Rep K H v d) : ∀ {vs : List V} {ds : List Dt} (i : Nat), Reps K H vs ds → Reps K H (vs.set i v) (ds.set i d)
  | _, _, _, .nil => .nil
  | _, _, 0, .cons _ r => .cons hv r
  | _, _, i + 1, .cons h r => .cons h (Reps.set hv i r)
theorem Reps.take {K : PySem.W.Frag} {H : Hp} : ∀ {vs : List V} {ds : List Dt} (n : Nat), Reps K H vs ds → Reps K H (vs.take n) (ds.take n)
  | _, _, 0, _ => .nil
  | _, _, _ + 1, .nil => .nil
  | _, _, n + 1, .cons h r => .cons h (Reps.take n r)
theorem Reps.drop {K : PySem.W.Frag} {H : Hp} : ∀ {vs : List V} {ds : List Dt} (n : Nat), Reps K H vs ds → Reps K H (vs.drop n) (ds.drop n)
  | _, _, 0, r => r
  | _, _, _ + 1, .nil => .nil
  | _, _, n + 1, .cons h r => Reps.drop n r
theorem RepF.lookup {K : PySem.W.Frag} {H : Hp} {f : Str} {d : Dt} : ∀ {vs : List (Str × V)} {ds : List (Str × Dt)}, RepF K H vs ds → ds.lookup f = some d → ∃ v, vs.lookup f = some v ∧ Rep K H v d
  | _, _, .nil, e => by cases e
  | _, _, .cons (f := g) h r, e => by
    rw [List.lookup_cons] at e ⊢
    cases q : f == g with
    | true => rw [q] at e; cases e; exact ⟨_, rfl, h⟩
    | false => rw [q] at e; exact RepF.lookup r e
theorem RepF.lookup_none {K : PySem.W.Frag} {H : Hp} {f : Str} : ∀ {vs : List (Str × V)} {ds : List (Str × Dt)}, RepF K H vs ds → ds.lookup f = none → vs.lookup f = none
  | _, _, .nil, e => rfl
  | _, _, .cons (f := g) h r, e => by
    rw [List.lookup_cons] at e ⊢
    cases q : f == g with
    | true => rw [q] at e; cases e
    | false => rw [q] at e; exact RepF.lookup_none r e
def putD (f : Str) (d : Dt) : List (Str × Dt) → List (Str × Dt)
  | [] => [(f, d)]
  | (g, e) :: r => if g = f then (g, d) :: r else (g, e) :: putD f d r
end DL

namespace DL
open PySem L2

/-! ### slots and states -/
inductive Sl where
  | un
  | d (x : Dt)
  | own (p : Option Addr) (xs : List Dt)
  | obo (p : Option Addr) (C : Addr) (fs : List (Str × Dt))

def Sl.isOwn : Sl → Bool
  | .own _ _ => true
  | .obo _ _ _ => true
  | _ => false

def SlOk (K : PySem.W.Frag) (F G H : Hp) (o : Option V) : Sl → Prop
  | .un => True
  | .d x => ∃ v, o = some v ∧ Rep K G v x
  | .own a xs => ∃ p vs, o = some (.ref p) ∧ G p = none ∧ F p = none ∧ H p = some (.lst vs) ∧ Reps K G vs xs ∧ ∀ q, a = some q → q = p
  | .obo a C fs => ∃ p dx vs, o = some (.ref p) ∧ G p = none ∧ F p = none ∧ H p = some (.ins C dx vs) ∧ RepF K G vs fs ∧ ∀ q, a = some q → q = p

/-- F: what is another's, G: what is known and stands, H: the heap -/
structure Stt (K : PySem.W.Frag) (F G H : Hp) (σ : L2.St) (es : List Sl) : Prop where
  f : Same F H
  g : Same G H
  dj : ∀ a o, F a = some o → G a = none
  len : σ.length = es.length
  sl : ∀ (i : Nat) (s : Sl), es[i]? = some s → ∃ o, σ[i]? = some o ∧ SlOk K F G H o s
  ow : ∀ (i j : Nat) (s t : Sl), i ≠ j → es[i]? = some s → es[j]? = some t → s.isOwn = true → t.isOwn = true → σ[i]? ≠ σ[j]?

section
variable {K : PySem.W.Frag} {F G H F' G' H' : Hp} {σ σ' : L2.St} {es : List Sl}

theorem not_some {H : Hp} {a : Addr} (h : ∀ o, H a = some o → False) : H a = none := by
  cases q : H a with
  | none => rfl
  | some o => exact (h o q).elim
theorem Stt.fnone (s : Stt K F G H σ es) {p : Addr} (h : H p = none) : F p = none := not_some fun o q => by
  have := s.f p o q
  rw [h] at this
  cases this
theorem Stt.gnone (s : Stt K F G H σ es) {p : Addr} (h : H p = none) : G p = none := not_some fun o q => by
  have := s.g p o q
  rw [h] at this
  cases this
theorem same_upd {H : Hp} {p : Addr} {o : HO} (h : H p = none) : Same H (upd H p o) := fun a u e => by
  rw [upd_ne (ne_of_none e h)]
  exact e
/-- heaps grow -/
theorem SlOk.grow {o : Option V} {s : Sl} (h : SlOk K F G H o s) (eg : Same G G') (eh : ∀ p u, G p = none → F p = none → H p = some u → H' p = some u) (hn : ∀ p, G p = none → (∃ u, H p = some u) → F p = none → G' p = none ∧ F' p = none) : SlOk K F' G' H' o s := by
  cases s with
  | un => trivial
  | d x =>
    obtain ⟨v, e, r⟩ := h
    exact ⟨v, e, r.mono eg⟩
  | own a xs =>
    obtain ⟨p, vs, e, g, f, hp, r, an⟩ := h
    obtain ⟨g', f'⟩ := hn p g ⟨_, hp⟩ f
    exact ⟨p, vs, e, g', f', eh p _ g f hp, r.mono eg, an⟩
  | obo a C fs =>
    obtain ⟨p, dx, vs, e, g, f, hp, r, an⟩ := h
    obtain ⟨g', f'⟩ := hn p g ⟨_, hp⟩ f
    exact ⟨p, dx, vs, e, g', f', eh p _ g f hp, r.mono eg, an⟩
/-- a new object that is known from now on -/
theorem Stt.new (s : Stt K F G H σ es) {p : Addr} {o : HO} (h : H p = none) : Stt K F (upd G p o) (upd H p o) σ es where
  f := s.f.trans (same_upd h)
  g := fun a u e => by
    by_cases q : a = p
    · subst q
      rw [upd_same] at e ⊢
      exact e
    · rw [upd_ne q] at e ⊢
      exact s.g a u e
  dj := fun a u e => by
    have : a ≠ p := fun q => by
      subst q
      rw [s.fnone h] at e
      cases e
    rw [upd_ne this]
    exact s.dj a u e
  len := s.len
  sl := fun i t e => by
    obtain ⟨x, hx, k⟩ := s.sl i t e
    refine ⟨x, hx, k.grow (same_upd (s.gnone h)) (fun q u _ _ e => by rw [upd_ne (ne_of_none e h)]; exact e) fun q g ⟨u, hu⟩ f => ⟨by rw [upd_ne (ne_of_none hu h)]; exact g, f⟩⟩
  ow := s.ow
/-- a new object that is nobody's -/
theorem Stt.lay (s : Stt K F G H σ es) {p : Addr} {o : HO} (h : H p = none) : Stt K F G (upd H p o) σ es where
  f := s.f.trans (same_upd h)
  g := s.g.trans (same_upd h)
  dj := s.dj
  len := s.len
  sl := fun i t e => by
    obtain ⟨x, hx, k⟩ := s.sl i t e
    exact ⟨x, hx, k.grow (Same.refl _) (fun q u _ _ e => by rw [upd_ne (ne_of_none e h)]; exact e) fun q g _ f => ⟨g, f⟩⟩
  ow := s.ow
/-- what of H is not known -/
def rem (G H : Hp) : Hp := fun a => match G a with
  | none => H a
  | some _ => none
theorem rem_some {G H : Hp} {a : Addr} {o : HO} (h : rem G H a = some o) : H a = some o ∧ G a = none := by
  unfold rem at h
  cases q : G a with
  | none => rw [q] at h; exact ⟨h, rfl⟩
  | some x => rw [q] at h; cases h
theorem rem_of {G H : Hp} {a : Addr} (h : G a = none) : rem G H a = H a := by
  unfold rem
  rw [h]
/-- behind a call: all that was not known stands -/
theorem Stt.after (s : Stt K F G H σ es) (f : Same (rem G H) H') (g : Same G' H') (dj : ∀ a o, rem G H a = some o → G' a = none) (gg : Same G G') : Stt K F G' H' σ es where
  f := fun a o e => f a o (by rw [rem_of (s.dj a o e)]; exact s.f a o e)
  g := g
  dj := fun a o e => dj a o (by rw [rem_of (s.dj a o e)]; exact s.f a o e)
  len := s.len
  sl := fun i t e => by
    obtain ⟨x, hx, k⟩ := s.sl i t e
    exact ⟨x, hx, k.grow gg (fun q u hg _ e => f q u (by rw [rem_of hg]; exact e)) fun q hg ⟨u, hu⟩ hf => ⟨dj q u (by rw [rem_of hg]; exact hu), hf⟩⟩
  ow := s.ow

/-- a slot is set to data -/
theorem Stt.set (s : Stt K F G H σ es) {i : Nat} {v : V} {d : Dt} (r : Rep K G v d) : Stt K F G H (σ.set i (some v)) (es.set i (.d d)) where
  f := s.f
  g := s.g
  dj := s.dj
  len := by rw [List.length_set, List.length_set]; exact s.len
  sl := fun j t e => by
    by_cases q : i = j
    · subst q
      have hj : i < es.length := by
        have := (List.getElem?_eq_some_iff.mp e).1
        rwa [List.length_set] at this
      rw [List.getElem?_set_self hj] at e
      cases e
      exact ⟨some v, List.getElem?_set_self (by rw [s.len]; exact hj), v, rfl, r⟩
    · rw [List.getElem?_set_ne q] at e
      rw [List.getElem?_set_ne q]
      exact s.sl j t e
  ow := fun a b t u ne ea eb ha hb => by
    have na : i ≠ a := fun q => by
      subst q
      have hj : i < es.length := by
        have := (List.getElem?_eq_some_iff.mp ea).1
        rwa [List.length_set] at this
      rw [List.getElem?_set_self hj] at ea
      cases ea
      cases ha
    have nb : i ≠ b := fun q => by
      subst q
      have hj : i < es.length := by
        have := (List.getElem?_eq_some_iff.mp eb).1
        rwa [List.length_set] at this
      rw [List.getElem?_set_self hj] at eb
      cases eb
      cases hb
    rw [List.getElem?_set_ne na] at ea
    rw [List.getElem?_set_ne nb] at eb
    rw [List.getElem?_set_ne na, List.getElem?_set_ne nb]
    exact s.ow a b t u ne ea eb ha hb
/-- a slot is set to an object that is laid just now -/
theorem Stt.setOwn (s : Stt K F G H σ es) {i : Nat} {p : Addr} {t : Sl} {H' : Hp} (hn : H p = none) (eh : ∀ a o, H a = some o → H' a = some o) (ht : t.isOwn = true) (k : SlOk K F G H' (some (.ref p)) t) : Stt K F G H' (σ.set i (some (.ref p))) (es.set i t) where
  f := fun a o e => eh a o (s.f a o e)
  g := fun a o e => eh a o (s.g a o e)
  dj := s.dj
  len := by rw [List.length_set, List.length_set]; exact s.len
  sl := fun j u e => by
    by_cases q : i = j
    · subst q
      have hj : i < es.length := by
        have := (List.getElem?_eq_some_iff.mp e).1
        rwa [List.length_set] at this
      rw [List.getElem?_set_self hj] at e
      cases e
      exact ⟨_, List.getElem?_set_self (by rw [s.len]; exact hj), k⟩
    · rw [List.getElem?_set_ne q] at e
      rw [List.getElem?_set_ne q]
      obtain ⟨x, hx, k⟩ := s.sl j u e
      exact ⟨x, hx, k.grow (Same.refl _) (fun q u _ _ e => eh q u e) fun q g _ f => ⟨g, f⟩⟩
  ow := fun a b u w ne ea eb ha hb => by
    have other : ∀ j z, i ≠ j → (es.set i t)[j]? = some z → z.isOwn = true → σ[j]? ≠ some (some (.ref p)) := fun j z nj ej hz q => by
      rw [List.getElem?_set_ne nj] at ej
      obtain ⟨x, hx, k⟩ := s.sl j z ej
      rw [hx] at q
      cases q
      cases z with
      | un => cases hz
      | d x => cases hz
      | own a xs =>
        obtain ⟨p', vs, e, _, _, hp, _⟩ := k
        cases e
        rw [hn] at hp
        cases hp
      | obo a C fs =>
        obtain ⟨p', dx, vs, e, _, _, hp, _⟩ := k
        cases e
        rw [hn] at hp
        cases hp
    by_cases na : i = a
    · subst na
      have hj : i < es.length := by
        have := (List.getElem?_eq_some_iff.mp ea).1
        rwa [List.length_set] at this
      rw [List.getElem?_set_self (by rw [s.len]; exact hj), List.getElem?_set_ne ne]
      exact fun q => other b w ne eb hb q.symm
    · by_cases nb : i = b
      · subst nb
        have hj : i < es.length := by
          have := (List.getElem?_eq_some_iff.mp eb).1
          rwa [List.length_set] at this
        rw [List.getElem?_set_self (by rw [s.len]; exact hj), List.getElem?_set_ne na]
        exact other a u na ea ha
      · rw [List.getElem?_set_ne na] at ea ⊢
        rw [List.getElem?_set_ne nb] at eb ⊢
        exact s.ow a b u w ne ea eb ha hb
/-- slots forgotten -/
def Wk : List Sl → List Sl → Prop
  | [], [] => True
  | a :: as, b :: bs => (b = .un ∨ a = b) ∧ Wk as bs
  | _, _ => False
theorem Wk.len : ∀ {as bs : List Sl}, Wk as bs → as.length = bs.length
  | [], [], _ => rfl
  | _ :: _, _ :: _, h => congrArg (· + 1) (Wk.len h.2)
  | [], _ :: _, h => h.elim
  | _ :: _, [], h => h.elim
theorem Wk.get : ∀ {as bs : List Sl} {i : Nat} {b : Sl}, Wk as bs → bs[i]? = some b → ∃ a, as[i]? = some a ∧ (b = .un ∨ a = b)
  | [], [], _, _, _, e => by simp at e
  | a :: as, b :: bs, 0, c, h, e => by simp at e; subst e; exact ⟨a, rfl, h.1⟩
  | a :: as, b :: bs, i + 1, c, h, e => by
    obtain ⟨x, h1, h2⟩ := Wk.get (i := i) h.2 (by simpa using e)
    exact ⟨x, by simpa using h1, h2⟩
  | [], _ :: _, _, _, h, _ => h.elim
  | _ :: _, [], _, _, h, _ => h.elim
theorem Wk.refl : ∀ (as : List Sl), Wk as as
  | [] => trivial
  | _ :: as => ⟨.inr rfl, Wk.refl as⟩
theorem Stt.wk (s : Stt K F G H σ es) {fs : List Sl} (w : Wk es fs) : Stt K F G H σ fs where
  f := s.f
  g := s.g
  dj := s.dj
  len := by rw [s.len, w.len]
  sl := fun i t e => by
    obtain ⟨a, ha, q⟩ := w.get e
    obtain ⟨x, hx, k⟩ := s.sl i a ha
    refine ⟨x, hx, ?_⟩
    rcases q with q | q
    · subst q; trivial
    · subst q; exact k
  ow := fun i j t u ne ei ej hi hj => by
    obtain ⟨a, ha, q⟩ := w.get ei
    obtain ⟨b, hb, q'⟩ := w.get ej
    have ea : a = t := by
      rcases q with q | q
      · subst q; cases hi
      · exact q
    have eb : b = u := by
      rcases q' with q | q
      · subst q; cases hj
      · exact q
    subst ea eb
    exact s.ow i j a b ne ha hb hi hj
end

/-! ### what an expression gives -/
def Ev (K : PySem.W.Frag) (te : TE) (es : List Sl) (d : Dt) : Prop := ∀ F G H σ, Stt K F G H σ es → ∀ Q : VK, (∀ v G' H', Stt K F G' H' σ es → Same G G' → Rep K G' v d → Q v H') → te σ H Q
def EvT (K : PySem.W.Frag) (t : TT) (es : List Sl) (b : Bool) : Prop := ∀ F G H σ, Stt K F G H σ es → ∀ Q : Bool → Hp → Prop, (∀ G' H', Stt K F G' H' σ es → Same G G' → Q b H') → t σ H Q
def EvA (K : PySem.W.Frag) (ta : TA) (es : List Sl) (ds : List Dt) : Prop := ∀ F G H σ, Stt K F G H σ es → ∀ Q : List V → Hp → Prop, (∀ vs G' H', Stt K F G' H' σ es → Same G G' → Reps K G' vs ds → Q vs H') → ta σ H Q
def EvO (K : PySem.W.Frag) (t : TO) (es : List Sl) (o : Option Int) : Prop := ∀ F G H σ, Stt K F G H σ es → ∀ Q : Option Int → Hp → Prop, (∀ G' H', Stt K F G' H' σ es → Same G G' → Q o H') → t σ H Q
/-- a two-place operation on data -/
def R2D (K : PySem.W.Frag) (r : R2) (a b c : Dt) : Prop := ∀ F G H σ es x y, Stt K F G H σ es → Rep K G x a → Rep K G y b → ∀ Q : VK, (∀ v G' H', Stt K F G' H' σ es → Same G G' → Rep K G' v c → Q v H') → r x y H Q
def R1D (K : PySem.W.Frag) (r : V → Hp → VK → Prop) (a c : Dt) : Prop := ∀ F G H σ es x, Stt K F G H σ es → Rep K G x a → ∀ Q : VK, (∀ v G' H', Stt K F G' H' σ es → Same G G' → Rep K G' v c → Q v H') → r x H Q
def RLD (K : PySem.W.Frag) (r : List V → Hp → VK → Prop) (as : List Dt) (c : Dt) : Prop := ∀ F G H σ es xs, Stt K F G H σ es → Reps K G xs as → ∀ Q : VK, (∀ v G' H', Stt K F G' H' σ es → Same G G' → Rep K G' v c → Q v H') → r xs H Q

section
variable {K : PySem.W.Frag} {es : List Sl} {ta tb te : TE} {t u : TT} {a b c d : Dt} {r : R2}

theorem ev_is (h : Ev K te es a) (e : a = b) : Ev K te es b := e ▸ h
theorem et_is {x y : Bool} (h : EvT K t es x) (e : x = y) : EvT K t es y := e ▸ h
theorem ev_var {i : Nat} (h : es[i]? = some (.d d)) : Ev K (tVar i) es d := fun F G H σ s Q q => by
  obtain ⟨o, ho, v, e, r⟩ := s.sl i _ h
  subst e
  exact ⟨v, ho, q v G H s (Same.refl _) r⟩
theorem ev_int {i : Int} : Ev K (tC (.int i)) es (.int i) := fun F G H σ s Q q => q _ G H s (Same.refl _) (.int i)
theorem ev_bl {i : Bool} : Ev K (tC (.bl i)) es (.bl i) := fun F G H σ s Q q => q _ G H s (Same.refl _) (.bl i)
theorem ev_str {i : Str} : Ev K (tC (.str i)) es (.str i) := fun F G H σ s Q q => q _ G H s (Same.refl _) (.str i)
theorem ev_non : Ev K (tC .non) es .non := fun F G H σ s Q q => q _ G H s (Same.refl _) .non
theorem ev_op (ha : Ev K ta es a) (hb : Ev K tb es b) (hr : R2D K r a b c) : Ev K (tOp r ta tb) es c := fun F G H σ s Q q =>
  ha F G H σ s _ fun x G1 H1 s1 g1 r1 => hb F G1 H1 σ s1 _ fun y G2 H2 s2 g2 r2 => hr F G2 H2 σ es x y s2 (r1.mono g2) r2 Q fun v G3 H3 s3 g3 r3 => q v G3 H3 s3 (g1.trans (g2.trans g3)) r3
theorem ev_un {r : V → Hp → VK → Prop} (ha : Ev K ta es a) (hr : R1D K r a c) : Ev K (tUn r ta) es c := fun F G H σ s Q q =>
  ha F G H σ s _ fun x G1 H1 s1 g1 r1 => hr F G1 H1 σ es x s1 r1 Q fun v G3 H3 s3 g3 r3 => q v G3 H3 s3 (g1.trans g3) r3
theorem ea_nil : EvA K tNil es [] := fun F G H σ s Q q => q [] G H s (Same.refl _) .nil
theorem ea_cons {tr : TA} {ds : List Dt} (ha : Ev K ta es a) (hr : EvA K tr es ds) : EvA K (tCons ta tr) es (a :: ds) := fun F G H σ s Q q =>
  ha F G H σ s _ fun x G1 H1 s1 g1 r1 => hr F G1 H1 σ s1 _ fun xs G2 H2 s2 g2 r2 => q _ G2 H2 s2 (g1.trans g2) (.cons (r1.mono g2) r2)
theorem ev_tup {t : TA} {ds : List Dt} (h : EvA K t es ds) (hl : ds.length ≤ 100000) : Ev K (tTup t) es (.tup ds) := fun F G H σ s Q q =>
  h F G H σ s _ fun xs G1 H1 s1 g1 r1 => ⟨by rw [r1.length]; exact Nat.le_trans hl (by decide), fun p hp =>
    q _ _ _ (s1.new hp) (g1.trans (same_upd (s1.gnone hp))) (.tup (.inl (.inl upd_same)) (r1.mono (same_upd (s1.gnone hp))))⟩
theorem ev_cb {t : TA} {r : List V → Hp → VK → Prop} {ds : List Dt} (h : EvA K t es ds) (hr : RLD K r ds c) : Ev K (tCB r t) es c := fun F G H σ s Q q =>
  h F G H σ s _ fun xs G1 H1 s1 g1 r1 => hr F G1 H1 σ es xs s1 r1 Q fun v G2 H2 s2 g2 r2 => q v G2 H2 s2 (g1.trans g2) r2

/-! ### operations on ints -/
theorem r2_I0 {g : Int → Int → V} {i j : Int} {c : Dt} (hg : ∀ G, Rep K G (g i j) c) : R2D K (rI0 g) (.int i) (.int j) c := fun F G H σ es x y s rx ry Q q => by
  cases rx
  cases ry
  exact ⟨i, j, rfl, rfl, q _ G H s (Same.refl _) (hg G)⟩
theorem r2_I {C : Int → Int → Prop} {g : Int → Int → V} {i j : Int} {c : Dt} (hc : C i j) (hg : ∀ G, Rep K G (g i j) c) : R2D K (rI C g) (.int i) (.int j) c := fun F G H σ es x y s rx ry Q q => by
  cases rx
  cases ry
  exact ⟨i, j, rfl, rfl, hc, q _ G H s (Same.refl _) (hg G)⟩
theorem r2_int {g : Int → Int → Int} {i j : Int} : R2D K (rI0 fun i j => .int (g i j)) (.int i) (.int j) (.int (g i j)) := r2_I0 fun _ => .int _
theorem r2_bl {g : Int → Int → Bool} {i j : Int} : R2D K (rI0 fun i j => .bl (g i j)) (.int i) (.int j) (.bl (g i j)) := r2_I0 fun _ => .bl _
theorem r2_intC {C : Int → Int → Prop} {g : Int → Int → Int} {i j : Int} (hc : C i j) : R2D K (rI C fun i j => .int (g i j)) (.int i) (.int j) (.int (g i j)) := r2_I hc fun _ => .int _
theorem r1_int {g : Int → Int} {i : Int} : R1D K (rU fun i => .int (g i)) (.int i) (.int (g i)) := fun F G H σ es x s rx Q q => by
  cases rx
  exact ⟨i, rfl, q _ G H s (Same.refl _) (.int _)⟩
theorem r1_neg {i : Int} : R1D K (rU fun i => .int (-i)) (.int i) (.int (-i)) := r1_int

/-! the operations that ask something, as partial functions -/
def mulC (i j : Int) : Option Int := if i.natAbs.log2 + j.natAbs.log2 < 100000000 then some (i * j) else none
def divC (i j : Int) : Option Int := if 0 < j ∧ j.natAbs.log2 < 9000 then some (i / j) else none
def modC (i j : Int) : Option Int := if 0 < j then some (i % j) else none
def powC (i j : Int) : Option Int := if 0 ≤ j ∧ ((i.natAbs.log2 : Int) + 1) * j ≤ 134217728 then some (i ^ j.toNat) else none
def shlC (i j : Int) : Option Int := if 0 ≤ j ∧ (i.natAbs.log2 : Int) + 1 + j ≤ 134217728 then some (i * 2 ^ j.toNat) else none
def shrC (i j : Int) : Option Int := if 0 ≤ j then some (i / 2 ^ j.toNat) else none
theorem bits_lg (x : Int) : (Builtin.Int.intBits x : Int) ≤ (x.natAbs.log2 : Int) + 1 := by
  unfold Builtin.Int.intBits
  split <;> omega
def CPowG (i j : Int) : Prop := 0 ≤ j ∧ ((i.natAbs.log2 : Int) + 1) * j ≤ 134217728
def CShlG (i j : Int) : Prop := 0 ≤ j ∧ (i.natAbs.log2 : Int) + 1 + j ≤ 134217728
theorem CPowG.ok {i j : Int} (h : CPowG i j) : (Builtin.Int.intBits i : Int) * j ≤ 2 ^ 27 := by
  have := Int.mul_le_mul_of_nonneg_right (bits_lg i) h.1
  have := h.2
  omega
theorem CShlG.ok {i j : Int} (h : CShlG i j) : (Builtin.Int.intBits i : Int) + j ≤ 2 ^ 27 := by
  have := bits_lg i
  have := h.2
  omega
theorem op_powG {X : Cx} : OpR X (binaryOp .Pow) (rI CPowG fun i j => .int (i ^ j.toNat)) := opI fun _ _ _ _ _ _ _ hc q => PyProof.Rows.pow_int hc.1 hc.ok q
theorem op_shlG {X : Cx} : OpR X (binaryOp .LShift) (rI CShlG fun i j => .int (i * 2 ^ j.toNat)) := opI fun _ _ _ _ _ _ _ hc q => PyProof.Rows.lshift_int hc.1 hc.ok q
/-- * of two factors of together less than a hundred million bits -/
def CMulG (i j : Int) : Prop := i.natAbs.log2 + j.natAbs.log2 < 100000000
theorem CMulG.ok {i j : Int} (h : CMulG i j) : IntMulOk i j := by
  have b : ∀ x : Int, Builtin.Int.intBits x ≤ x.natAbs.log2 + 1 := fun x => by
    unfold Builtin.Int.intBits
    split <;> omega
  have h1 := b i
  have h2 := b j
  have h3 : i.natAbs.log2 + j.natAbs.log2 < 100000000 := h
  have e : bitsLine = 134217728 := by decide
  unfold IntMulOk
  intro z
  rw [Bool.and_eq_true] at z
  have z2 := z.2
  unfold Builtin.Int.intTooBig at z2
  have z3 := of_decide_eq_true z2
  rw [e] at z3
  omega
theorem op_mulG {X : Cx} : OpR X (binaryOp .Mult) (rI CMulG fun i j => .int (i * j)) := opI fun _ _ _ _ _ _ _ hc q => PyProof.Rows.mul_int q hc.ok
theorem ite_some {α : Type} {p : Prop} [Decidable p] {x y : α} (h : (if p then some x else none) = some y) : p ∧ x = y := by
  by_cases q : p
  · rw [if_pos q] at h
    exact ⟨q, Option.some.inj h⟩
  · rw [if_neg q] at h
    cases h
theorem ev_mul {i j k : Int} (ha : Ev K ta es (.int i)) (hb : Ev K tb es (.int j)) (h : mulC i j = some k) : Ev K (tOp (rI CMulG fun i j => .int (i * j)) ta tb) es (.int k) := by
  obtain ⟨h1, h2⟩ := ite_some h
  subst h2
  exact ev_op ha hb (r2_intC h1)
theorem ev_div {i j k : Int} (ha : Ev K ta es (.int i)) (hb : Ev K tb es (.int j)) (h : divC i j = some k) : Ev K (tOp (rI CDivW fun i j => .int (i / j)) ta tb) es (.int k) := by
  obtain ⟨h1, h2⟩ := ite_some h
  subst h2
  exact ev_op ha hb (r2_intC h1)
theorem ev_mod {i j k : Int} (ha : Ev K ta es (.int i)) (hb : Ev K tb es (.int j)) (h : modC i j = some k) : Ev K (tOp (rI (fun _ j => 0 < j) fun i j => .int (i % j)) ta tb) es (.int k) := by
  obtain ⟨h1, h2⟩ := ite_some h
  subst h2
  exact ev_op ha hb (r2_I h1 fun _ => .int _)
theorem ev_pow {i j k : Int} (ha : Ev K ta es (.int i)) (hb : Ev K tb es (.int j)) (h : powC i j = some k) : Ev K (tOp (rI CPowG fun i j => .int (i ^ j.toNat)) ta tb) es (.int k) := by
  obtain ⟨h1, h2⟩ := ite_some h
  subst h2
  exact ev_op ha hb (r2_intC h1)
theorem ev_shl {i j k : Int} (ha : Ev K ta es (.int i)) (hb : Ev K tb es (.int j)) (h : shlC i j = some k) : Ev K (tOp (rI CShlG fun i j => .int (i * 2 ^ j.toNat)) ta tb) es (.int k) := by
  obtain ⟨h1, h2⟩ := ite_some h
  subst h2
  exact ev_op ha hb (r2_intC h1)
theorem ev_shr {i j k : Int} (ha : Ev K ta es (.int i)) (hb : Ev K tb es (.int j)) (h : shrC i j = some k) : Ev K (tOp (rI (fun _ j => 0 ≤ j) fun i j => .int (i / 2 ^ j.toNat)) ta tb) es (.int k) := by
  obtain ⟨h1, h2⟩ := ite_some h
  subst h2
  exact ev_op ha hb (r2_I h1 fun _ => .int _)
theorem ev_add {i j : Int} (ha : Ev K ta es (.int i)) (hb : Ev K tb es (.int j)) : Ev K (tOp (rI0 fun i j => .int (i + j)) ta tb) es (.int (i + j)) := ev_op ha hb r2_int
theorem ev_sub {i j : Int} (ha : Ev K ta es (.int i)) (hb : Ev K tb es (.int j)) : Ev K (tOp (rI0 fun i j => .int (i - j)) ta tb) es (.int (i - j)) := ev_op ha hb r2_int
theorem ev_neg {i : Int} (ha : Ev K ta es (.int i)) : Ev K (tUn (rU fun i => .int (-i)) ta) es (.int (-i)) := ev_un ha r1_neg
theorem ev_lt {i j : Int} (ha : Ev K ta es (.int i)) (hb : Ev K tb es (.int j)) : Ev K (tOp (rI0 fun i j => .bl (decide (i < j))) ta tb) es (.bl (decide (i < j))) := ev_op ha hb r2_bl
theorem ev_le {i j : Int} (ha : Ev K ta es (.int i)) (hb : Ev K tb es (.int j)) : Ev K (tOp (rI0 fun i j => .bl (decide (i ≤ j))) ta tb) es (.bl (decide (i ≤ j))) := ev_op ha hb r2_bl
theorem ev_gt {i j : Int} (ha : Ev K ta es (.int i)) (hb : Ev K tb es (.int j)) : Ev K (tOp (rI0 fun i j => .bl (decide (j < i))) ta tb) es (.bl (decide (j < i))) := ev_op ha hb r2_bl
theorem ev_ge {i j : Int} (ha : Ev K ta es (.int i)) (hb : Ev K tb es (.int j)) : Ev K (tOp (rI0 fun i j => .bl (decide (j ≤ i))) ta tb) es (.bl (decide (j ≤ i))) := ev_op ha hb r2_bl
/-- what is one value without objects -/
def fl : Dt → V
  | .non => .non | .bl b => .bl b | .int i => .int i | .str s => .str s | _ => .ref 0
def isFl : Dt → Bool
  | .non => true | .bl _ => true | .int _ => true | .str _ => true | _ => false
theorem rep_fl {G : Hp} {x : V} {d : Dt} (h : isFl d = true) (r : Rep K G x d) : x = fl d := by
  cases r <;> first | rfl | cases h
theorem r2_eq {a b : Dt} (h : scal (fl a) (fl b) = true) (ha : isFl a = true) (hb : isFl b = true) : R2D K rEq a b (.bl (decide (fl a = fl b))) := fun F G H σ es x y s rx ry Q q => by
  rw [rep_fl ha rx, rep_fl hb ry]
  exact ⟨h, q _ G H s (Same.refl _) (.bl _)⟩
theorem r2_ne {a b : Dt} (h : scal (fl a) (fl b) = true) (ha : isFl a = true) (hb : isFl b = true) : R2D K rNe a b (.bl (!decide (fl a = fl b))) := fun F G H σ es x y s rx ry Q q => by
  rw [rep_fl ha rx, rep_fl hb ry]
  exact ⟨h, q _ G H s (Same.refl _) (.bl _)⟩
theorem dec_congr {p q : Prop} [Decidable p] [Decidable q] (h : p ↔ q) : decide p = decide q := by
  by_cases e : p
  · rw [decide_eq_true e, decide_eq_true (h.mp e)]
  · rw [decide_eq_false e, decide_eq_false fun z => e (h.mpr z)]
theorem ev_eqI {i j : Int} (ha : Ev K ta es (.int i)) (hb : Ev K tb es (.int j)) : Ev K (tOp rEq ta tb) es (.bl (decide (i = j))) := by
  have h : Ev K (tOp rEq ta tb) es (.bl (decide (V.int i = V.int j))) := ev_op ha hb (r2_eq rfl rfl rfl)
  rwa [dec_congr ⟨fun q : V.int i = V.int j => V.int.inj q, fun q => congrArg _ q⟩] at h
theorem ev_neI {i j : Int} (ha : Ev K ta es (.int i)) (hb : Ev K tb es (.int j)) : Ev K (tOp rNe ta tb) es (.bl (!decide (i = j))) := by
  have h : Ev K (tOp rNe ta tb) es (.bl (!decide (V.int i = V.int j))) := ev_op ha hb (r2_ne rfl rfl rfl)
  rwa [dec_congr ⟨fun q : V.int i = V.int j => V.int.inj q, fun q => congrArg _ q⟩] at h
theorem ev_eqB {i j : Bool} (ha : Ev K ta es (.bl i)) (hb : Ev K tb es (.bl j)) : Ev K (tOp rEq ta tb) es (.bl (decide (i = j))) := by
  have h : Ev K (tOp rEq ta tb) es (.bl (decide (V.bl i = V.bl j))) := ev_op ha hb (r2_eq rfl rfl rfl)
  rwa [dec_congr ⟨fun q : V.bl i = V.bl j => V.bl.inj q, fun q => congrArg _ q⟩] at h
theorem ev_neB {i j : Bool} (ha : Ev K ta es (.bl i)) (hb : Ev K tb es (.bl j)) : Ev K (tOp rNe ta tb) es (.bl (!decide (i = j))) := by
  have h : Ev K (tOp rNe ta tb) es (.bl (!decide (V.bl i = V.bl j))) := ev_op ha hb (r2_ne rfl rfl rfl)
  rwa [dec_congr ⟨fun q : V.bl i = V.bl j => V.bl.inj q, fun q => congrArg _ q⟩] at h
theorem ev_eqS {i j : Str} (ha : Ev K ta es (.str i)) (hb : Ev K tb es (.str j)) : Ev K (tOp rEq ta tb) es (.bl (decide (i = j))) := by
  have h : Ev K (tOp rEq ta tb) es (.bl (decide (V.str i = V.str j))) := ev_op ha hb (r2_eq rfl rfl rfl)
  rwa [dec_congr ⟨fun q : V.str i = V.str j => V.str.inj q, fun q => congrArg _ q⟩] at h
theorem ev_neS {i j : Str} (ha : Ev K ta es (.str i)) (hb : Ev K tb es (.str j)) : Ev K (tOp rNe ta tb) es (.bl (!decide (i = j))) := by
  have h : Ev K (tOp rNe ta tb) es (.bl (!decide (V.str i = V.str j))) := ev_op ha hb (r2_ne rfl rfl rfl)
  rwa [dec_congr ⟨fun q : V.str i = V.str j => V.str.inj q, fun q => congrArg _ q⟩] at h

/-! ### tests, and, or, not, if -/
theorem et_test {b : Bool} (h : Ev K te es (.bl b)) : EvT K (tTest te) es b := fun F G H σ s Q q => h F G H σ s _ fun v G1 H1 s1 g1 r1 => by
  cases r1
  exact ⟨b, rfl, q G1 H1 s1 g1⟩
theorem et_B {b : Bool} (h : Ev K te es (.bl b)) : EvT K (tB te) es b := fun F G H σ s Q q => h F G H σ s _ fun v G1 H1 s1 g1 r1 => by
  cases r1
  exact ⟨b, rfl, q G1 H1 s1 g1⟩
theorem et_not {b : Bool} (h : EvT K t es b) : EvT K (tNot t) es (!b) := fun F G H σ s Q q => h F G H σ s _ fun G1 H1 s1 g1 => q G1 H1 s1 g1
theorem et_and {x y : Bool} (h1 : EvT K t es x) (h2 : x = true → EvT K u es y) : EvT K (tAnd t u) es (x && y) := fun F G H σ s Q q => h1 F G H σ s _ fun G1 H1 s1 g1 => by
  cases x with
  | true =>
    show u σ H1 Q
    exact h2 rfl F G1 H1 σ s1 Q fun G2 H2 s2 g2 => q G2 H2 s2 (g1.trans g2)
  | false => exact q G1 H1 s1 g1
theorem et_or {x y : Bool} (h1 : EvT K t es x) (h2 : x = false → EvT K u es y) : EvT K (tOr t u) es (x || y) := fun F G H σ s Q q => h1 F G H σ s _ fun G1 H1 s1 g1 => by
  cases x with
  | false =>
    show u σ H1 Q
    exact h2 rfl F G1 H1 σ s1 Q fun G2 H2 s2 g2 => q G2 H2 s2 (g1.trans g2)
  | true => exact q G1 H1 s1 g1
theorem et_andC {x z : Bool} {m : Option Bool} (h1 : EvT K t es x) (h2 : x = true → ∀ y, m = some y → EvT K u es y) (h : (if x = true then m else some false) = some z) : EvT K (tAnd t u) es z := by
  cases x with
  | true => exact et_is (et_and h1 fun e => h2 e z h) rfl
  | false =>
    have e : false = z := Option.some.inj h
    exact et_is (et_and (y := true) h1 fun e => nomatch e) e
theorem et_orC {x z : Bool} {m : Option Bool} (h1 : EvT K t es x) (h2 : x = false → ∀ y, m = some y → EvT K u es y) (h : (if x = true then some true else m) = some z) : EvT K (tOr t u) es z := by
  cases x with
  | false => exact et_is (et_or h1 fun e => h2 e z h) rfl
  | true =>
    have e : true = z := Option.some.inj h
    exact et_is (et_or (y := true) h1 fun e => nomatch e) e
theorem ev_notV {x : Bool} (h1 : Ev K ta es (.bl x)) : Ev K (tNotV ta) es (.bl (!x)) := fun F G H σ s Q q => h1 F G H σ s _ fun v G1 H1 s1 g1 r1 => by
  cases r1
  exact ⟨x, rfl, q _ G1 H1 s1 g1 (.bl _)⟩
theorem ev_andV {x y : Bool} (h1 : Ev K ta es (.bl x)) (h2 : x = true → Ev K tb es (.bl y)) : Ev K (tAndV ta tb) es (.bl (x && y)) := fun F G H σ s Q q => h1 F G H σ s _ fun v G1 H1 s1 g1 r1 => by
  cases r1
  refine ⟨x, rfl, ?_⟩
  cases x with
  | true =>
    show tb σ H1 Q
    exact h2 rfl F G1 H1 σ s1 Q fun v G2 H2 s2 g2 r2 => q v G2 H2 s2 (g1.trans g2) r2
  | false => exact q _ G1 H1 s1 g1 (.bl _)
theorem ev_orV {x y : Bool} (h1 : Ev K ta es (.bl x)) (h2 : x = false → Ev K tb es (.bl y)) : Ev K (tOrV ta tb) es (.bl (x || y)) := fun F G H σ s Q q => h1 F G H σ s _ fun v G1 H1 s1 g1 r1 => by
  cases r1
  refine ⟨x, rfl, ?_⟩
  cases x with
  | false =>
    show tb σ H1 Q
    exact h2 rfl F G1 H1 σ s1 Q fun v G2 H2 s2 g2 r2 => q v G2 H2 s2 (g1.trans g2) r2
  | true => exact q _ G1 H1 s1 g1 (.bl _)
theorem ev_andVC {x z : Bool} {m : Option Bool} (h1 : Ev K ta es (.bl x)) (h2 : x = true → ∀ y, m = some y → Ev K tb es (.bl y)) (h : (if x = true then m else some false) = some z) : Ev K (tAndV ta tb) es (.bl z) := by
  cases x with
  | true => exact ev_is (ev_andV h1 fun e => h2 e z h) rfl
  | false =>
    have e : false = z := Option.some.inj h
    exact ev_is (ev_andV (y := true) h1 fun e => nomatch e) (congrArg _ e)
theorem ev_orVC {x z : Bool} {m : Option Bool} (h1 : Ev K ta es (.bl x)) (h2 : x = false → ∀ y, m = some y → Ev K tb es (.bl y)) (h : (if x = true then some true else m) = some z) : Ev K (tOrV ta tb) es (.bl z) := by
  cases x with
  | false => exact ev_is (ev_orV h1 fun e => h2 e z h) rfl
  | true =>
    have e : true = z := Option.some.inj h
    exact ev_is (ev_orV (y := true) h1 fun e => nomatch e) (congrArg _ e)
theorem ev_if {x : Bool} (h : EvT K t es x) (h1 : x = true → Ev K ta es d) (h2 : x = false → Ev K tb es d) : Ev K (tIf t ta tb) es d := fun F G H σ s Q q => h F G H σ s _ fun G1 H1 s1 g1 => by
  cases x with
  | true =>
    show ta σ H1 Q
    exact h1 rfl F G1 H1 σ s1 Q fun v G2 H2 s2 g2 r2 => q v G2 H2 s2 (g1.trans g2) r2
  | false =>
    show tb σ H1 Q
    exact h2 rfl F G1 H1 σ s1 Q fun v G2 H2 s2 g2 r2 => q v G2 H2 s2 (g1.trans g2) r2
/-- a if t else b, both without asking -/
theorem ev_ifP {α : Type} {x : Bool} {p q : α} {em : α → Dt} (h : EvT K t es x) (h1 : Ev K ta es (em p)) (h2 : Ev K tb es (em q)) : Ev K (tIf t ta tb) es (em (if x = true then p else q)) := by
  cases x with
  | true => exact ev_if h (fun _ => h1) fun e => nomatch e
  | false => exact ev_if h (fun e => nomatch e) fun _ => h2
theorem ev_ifC {α : Type} {x : Bool} {p q : Option α} {em : α → Dt} {z : α} (h : EvT K t es x) (h1 : x = true → ∀ y, p = some y → Ev K ta es (em y)) (h2 : x = false → ∀ y, q = some y → Ev K tb es (em y)) (e : (if x = true then p else q) = some z) : Ev K (tIf t ta tb) es (em z) := by
  cases x with
  | true => exact ev_if h (fun _ => h1 rfl z e) fun e => nomatch e
  | false => exact ev_if h (fun e => nomatch e) fun _ => h2 rfl z e
/-- a op1 b op2 c -/
theorem ev_chain {r r' : R2} {tc : TE} {x y : Bool} (ha : Ev K ta es a) (hb : Ev K tb es b) (hr : R2D K r a b (.bl x)) (hc : x = true → Ev K tc es c) (hr' : x = true → R2D K r' b c (.bl y)) : Ev K (tChain r r' ta tb tc) es (.bl (x && y)) := fun F G H σ s Q q =>
  ha F G H σ s _ fun v1 G1 H1 s1 g1 r1 => hb F G1 H1 σ s1 _ fun v2 G2 H2 s2 g2 r2 => hr F G2 H2 σ es v1 v2 s2 (r1.mono g2) r2 _ fun z G3 H3 s3 g3 r3 => by
    cases r3
    refine ⟨x, rfl, ?_⟩
    cases x with
    | true =>
      show tc σ H3 fun w' H4 => r' v2 w' H4 Q
      exact hc rfl F G3 H3 σ s3 _ fun v4 G4 H4 s4 g4 r4 => hr' rfl F G4 H4 σ es v2 v4 s4 ((r2.mono g3).mono g4) r4 Q fun v5 G5 H5 s5 g5 r5 => q v5 G5 H5 s5 (g1.trans (g2.trans (g3.trans (g4.trans g5)))) r5
    | false => exact q _ G3 H3 s3 (g1.trans (g2.trans g3)) (.bl _)
theorem ev_chainC {r r' : R2} {tc : TE} {α : Type} {em : α → Dt} {x z : Bool} {m : Option α} {f : α → Bool} (ha : Ev K ta es a) (hb : Ev K tb es b) (hr : R2D K r a b (.bl x)) (hc : x = true → ∀ w, m = some w → Ev K tc es (em w)) (hr' : ∀ w, R2D K r' b (em w) (.bl (f w)))
    (h : (if x = true then m.bind fun w => some (f w) else some false) = some z) : Ev K (tChain r r' ta tb tc) es (.bl z) := by
  cases x with
  | true =>
    cases hm : m with
    | none => rw [hm] at h; cases h
    | some w =>
      rw [hm] at h
      have e : f w = z := Option.some.inj h
      exact ev_is (ev_chain ha hb hr (fun e => hc e w hm) fun _ => hr' w) (congrArg _ e)
  | false =>
    have e : false = z := Option.some.inj h
    exact ev_is (ev_chain (c := .non) (y := true) ha hb hr (fun e => nomatch e) fun e => nomatch e) (congrArg _ e)
theorem c_lt {i j : Int} : R2D K (rI0 fun i j => .bl (decide (i < j))) (.int i) (.int j) (.bl (decide (i < j))) := r2_bl
theorem c_le {i j : Int} : R2D K (rI0 fun i j => .bl (decide (i ≤ j))) (.int i) (.int j) (.bl (decide (i ≤ j))) := r2_bl
theorem c_gt {i j : Int} : R2D K (rI0 fun i j => .bl (decide (j < i))) (.int i) (.int j) (.bl (decide (j < i))) := r2_bl
theorem c_ge {i j : Int} : R2D K (rI0 fun i j => .bl (decide (j ≤ i))) (.int i) (.int j) (.bl (decide (j ≤ i))) := r2_bl
theorem c_eq {i j : Int} : R2D K rEq (.int i) (.int j) (.bl (decide (i = j))) := fun F G H σ es x y s rx ry Q q => by
  cases rx
  cases ry
  refine ⟨rfl, q _ G H s (Same.refl _) ?_⟩
  rw [dec_congr ⟨fun q : V.int i = V.int j => V.int.inj q, fun q => congrArg _ q⟩]
  exact .bl _

/-! ### subscripts, fields -/
def atC {α : Type} (xs : List α) (i : Int) : Option α := atI xs i
theorem atI_map {α β : Type} (f : α → β) (xs : List α) (i : Int) : atI (xs.map f) i = (atI xs i).map f := by
  unfold atI
  rw [List.length_map]
  cases ixN xs.length i with
  | none => rfl
  | some j =>
    show (xs.map f)[j]? = (xs[j]?).map f
    rw [List.getElem?_map]
theorem reps_at {G : Hp} {vs : List V} {ds : List Dt} {i : Int} {d : Dt} (r : Reps K G vs ds) (h : atI ds i = some d) : ∃ v, atI vs i = some v ∧ Rep K G v d := by
  unfold atI at h ⊢
  rw [r.length]
  cases q : ixN ds.length i with
  | none => rw [q] at h; cases h
  | some j =>
    rw [q] at h
    exact r.get h
theorem ev_ixT {ds : List Dt} {i : Int} (ha : Ev K ta es (.tup ds)) (hb : Ev K tb es (.int i)) (h : atI ds i = some d) : Ev K (tOp (rIxT K) ta tb) es d := ev_op ha hb fun F G H σ es x y s rx ry Q q => by
  cases rx with
  | tup hs r =>
    cases ry
    obtain ⟨v, hv, rv⟩ := reps_at r h
    exact ⟨_, _, i, v, rfl, rfl, sqT_mono s.g hs, hv, q v G H s (Same.refl _) rv⟩
theorem ev_ixL {ds : List Dt} {i : Int} (ha : Ev K ta es (.lst ds)) (hb : Ev K tb es (.int i)) (h : atI ds i = some d) : Ev K (tOp (rIxL K) ta tb) es d := ev_op ha hb fun F G H σ es x y s rx ry Q q => by
  cases rx with
  | lst hs r =>
    cases ry
    obtain ⟨v, hv, rv⟩ := reps_at r h
    exact ⟨_, _, i, v, rfl, rfl, s.g.seq hs, hv, q v G H s (Same.refl _) rv⟩
/-- at an index that is not written -/
theorem ev_ixTC {α : Type} {em : α → Dt} {xs : List α} {i : Int} {x : α} (ha : Ev K ta es (.tup (xs.map em))) (hb : Ev K tb es (.int i)) (h : atC xs i = some x) : Ev K (tOp (rIxT K) ta tb) es (em x) :=
  ev_ixT ha hb (by rw [atI_map, show atI xs i = some x from h]; rfl)
theorem ev_ixLC {α : Type} {em : α → Dt} {xs : List α} {i : Int} {x : α} (ha : Ev K ta es (.lst (xs.map em))) (hb : Ev K tb es (.int i)) (h : atC xs i = some x) : Ev K (tOp (rIxL K) ta tb) es (em x) :=
  ev_ixL ha hb (by rw [atI_map, show atI xs i = some x from h]; rfl)
theorem ev_fld {C : Addr} {fs : List (Str × Dt)} {f : Str} (ha : Ev K ta es (.obj C fs)) (hc : Cls K C) (hn : NoAttr K C f) (hl : fs.lookup f = some d) : Ev K (tFld K ta f) es d := fun F G H σ s Q q =>
  ha F G H σ s _ fun x G1 H1 s1 g1 r1 => by
    cases r1 with
    | obj h r =>
      obtain ⟨v, hv, rv⟩ := r.lookup hl
      exact ⟨_, C, _, _, v, rfl, s1.g _ _ h, hc, hn, hv, q v G1 H1 s1 g1 rv⟩
/-- a field of the object one makes -/
theorem ev_fldO {C : Addr} {fs : List (Str × Dt)} {f : Str} {i : Nat} {p : Option Addr} (h : es[i]? = some (.obo p C fs)) (hc : Cls K C) (hn : NoAttr K C f) (hl : fs.lookup f = some d) : Ev K (tFld K (tVar i) f) es d := fun F G H σ s Q q => by
  obtain ⟨o, ho, p, dx, vs, e, g, f, hp, r, _⟩ := s.sl i _ h
  subst e
  obtain ⟨v, hv, rv⟩ := r.lookup hl
  exact ⟨.ref p, ho, p, C, dx, vs, v, rfl, hp, hc, hn, hv, q v G H s (Same.refl _) rv⟩
/-- an item of the list one fills -/
theorem ev_ixO {ds : List Dt} {i : Int} {j : Nat} {p : Option Addr} (h : es[j]? = some (.own p ds)) (hb : Ev K tb es (.int i)) (ha : atI ds i = some d) : Ev K (tOp (rIxL K) (tVar j) tb) es d := fun F G H σ s Q q => by
  obtain ⟨o, ho, _⟩ := s.sl j _ h
  have ho' := ho
  obtain ⟨o2, ho2, p2, vs2, e2, _⟩ := s.sl j _ h
  subst e2
  refine ⟨.ref p2, ho2, hb F G H σ s _ fun y G1 H1 s1 g1 r1 => ?_⟩
  cases r1
  obtain ⟨o, ho, p, vs, e, g, f, hp, r, _⟩ := s1.sl j _ h
  subst e
  rw [ho2] at ho
  cases ho
  obtain ⟨v, hv, rv⟩ := reps_at r ha
  exact ⟨_, vs, i, v, rfl, rfl, .inl (.inl hp), hv, q v G1 H1 s1 g1 rv⟩
theorem ev_ixOC {α : Type} {em : α → Dt} {xs : List α} {i : Int} {j : Nat} {p : Option Addr} {x : α} (h : es[j]? = some (.own p (xs.map em))) (hb : Ev K tb es (.int i)) (ha : atC xs i = some x) : Ev K (tOp (rIxL K) (tVar j) tb) es (em x) :=
  ev_ixO h hb (by rw [atI_map, show atI xs i = some x from ha]; rfl)
end
end DL

namespace DL
open PySem L2

/-! ### statements -/
inductive Res where
  | nx (es : List Sl) | go (es : List Sl) | bk (es : List Sl) | rt (d : Dt) (es : List Sl) | rl (ds : List Dt) (es : List Sl)
def Good (K : PySem.W.Frag) (F G : Hp) (D : Ends) : Res → Prop
  | .nx es => ∀ G' H' σ', Stt K F G' H' σ' es → Same G G' → D.nx σ' H'
  | .go es => (∀ G' H' σ', Stt K F G' H' σ' es → Same G G' → D.nx σ' H') ∧ ∀ G' H' σ', Stt K F G' H' σ' es → Same G G' → D.ct σ' H'
  | .bk es => ∀ G' H' σ', Stt K F G' H' σ' es → Same G G' → D.bk σ' H'
  | .rt d es => ∀ v G' H' σ', Stt K F G' H' σ' es → Same G G' → Rep K G' v d → D.rt v H'
  | .rl ds es => ∀ p vs G' H' σ', Stt K (upd F p (.lst vs)) G' H' σ' es → F p = none → Same G G' → Reps K G' vs ds → D.rt (.ref p) H'
theorem Good.up {K : PySem.W.Frag} {F G G1 : Hp} {D : Ends} {o : Res} (h : Good K F G D o) (g : Same G G1) : Good K F G1 D o := by
  cases o with
  | nx es => exact fun G' H' σ' s e => h G' H' σ' s (g.trans e)
  | go es => exact ⟨fun G' H' σ' s e => h.1 G' H' σ' s (g.trans e), fun G' H' σ' s e => h.2 G' H' σ' s (g.trans e)⟩
  | bk es => exact fun G' H' σ' s e => h G' H' σ' s (g.trans e)
  | rt d es => exact fun v G' H' σ' s e r => h v G' H' σ' s (g.trans e) r
  | rl ds es => exact fun p vs G' H' σ' s f e r => h p vs G' H' σ' s f (g.trans e) r
def SEv (K : PySem.W.Frag) (t : TS) (es : List Sl) (o : Res) : Prop := ∀ F G H σ D, Stt K F G H σ es → Good K F G D o → t D σ H
def SM {ρ : Type} (K : PySem.W.Frag) (t : TS) (es : List Sl) (m : Option ρ) (oc : ρ → Res) : Prop := ∀ r, m = some r → SEv K t es (oc r)
/-- a target -/
def EvG (K : PySem.W.Frag) (g : TG) (vs : List Nat) (es : List Sl) (d : Dt) (es' : List Sl) : Prop := ∀ F G H σ v, Stt K F G H σ es → Rep K G v d → ∀ Q : L2.St → Hp → Prop,
  (∀ σ' G' H', Stt K F G' H' σ' es' → Same G G' → σ'.length = σ.length → (∀ k, k ∉ vs → σ'[k]? = σ[k]?) → Q σ' H') → g v σ H Q
/-- a let -/
def lt {α β : Type} (e : α) (f : α → β) : β := f e

section
variable {K : PySem.W.Frag} {es fs : List Sl} {ρ : Type} {t u tz : TS} {m : Option ρ} {oc : ρ → Res} {te : TE} {d : Dt} {c : TT}
theorem sm_some {r : ρ} (h : SEv K t es (oc r)) : SM K t es (some r) oc := fun r' e => by
  cases e
  exact h
theorem sm_none : SM K t es none oc := fun r' e => by cases e
theorem sm_bind {α : Type} {m1 : Option α} {f : α → Option ρ} (h : ∀ x, m1 = some x → SM K t es (f x) oc) : SM K t es (m1.bind f) oc := fun r e => by
  cases q : m1 with
  | none => rw [q] at e; cases e
  | some x =>
    rw [q] at e
    exact h x q r e
theorem sm_lt {α : Type} {e : α} {f : α → Option ρ} (h : ∀ x, e = x → SM K t es (f x) oc) : SM K t es (lt e f) oc := h e rfl
theorem sm_one (h : SM K (tSeq t tNext) es m oc) : SM K t es m oc := h
theorem sm_as {v : TS} (h : SM K (tSeq t (tSeq u v)) es m oc) : SM K (tSeq (tSeq t u) v) es m oc := h
theorem sm_nil (h : SM K tz es m oc) : SM K (tSeq tNext tz) es m oc := h
theorem sm_wk {gs : List Sl} (w : Wk es gs) (h : SM K t gs m oc) : SM K t es m oc := fun r e F G H σ D s q => h r e F G H σ D (s.wk w) q
theorem sev_nx (w : Wk es fs) : SEv K tNext es (.nx fs) := fun F G H σ D s q => q G H σ (s.wk w) (Same.refl _)
theorem sev_go (w : Wk es fs) : SEv K tNext es (.go fs) := fun F G H σ D s q => q.1 G H σ (s.wk w) (Same.refl _)
theorem sev_ct (w : Wk es fs) : SEv K (tSeq tCont tz) es (.go fs) := fun F G H σ D s q => q.2 G H σ (s.wk w) (Same.refl _)
theorem sev_bk (w : Wk es fs) : SEv K (tSeq tBreak tz) es (.bk fs) := fun F G H σ D s q => q G H σ (s.wk w) (Same.refl _)
theorem sev_rt (h : Ev K te es d) (w : Wk es fs) : SEv K (tSeq (tRet te) tz) es (.rt d fs) := fun F G H σ D s q => h F G H σ s _ fun v G1 H1 s1 g1 r1 => q v G1 H1 σ (s1.wk w) g1 r1
theorem sev_rtN (w : Wk es fs) : SEv K (tSeq tRetN tz) es (.rt .non fs) := fun F G H σ D s q => q .non G H σ (s.wk w) (Same.refl _) .non
theorem sm_asg {i : Nat} (h : Ev K te es d) (k : SM K tz (es.set i (.d d)) m oc) : SM K (tSeq (tAsg te (gName i)) tz) es m oc := fun r e F G H σ D s q =>
  h F G H σ s _ fun v G1 H1 s1 g1 r1 => k r e F G1 H1 _ D (s1.set r1) (q.up g1)
theorem sm_drop (h : Ev K te es d) (k : SM K tz es m oc) : SM K (tSeq (tDrop te) tz) es m oc := fun r e F G H σ D s q =>
  h F G H σ s _ fun v G1 H1 s1 g1 r1 => k r e F G1 H1 _ D s1 (q.up g1)
theorem sm_asgG {g : TG} {vs : List Nat} {es' : List Sl} (h : Ev K te es d) (hg : EvG K g vs es d es') (k : SM K tz es' m oc) : SM K (tSeq (tAsg te g) tz) es m oc := fun r e F G H σ D s q =>
  h F G H σ s _ fun v G1 H1 s1 g1 r1 => hg F G1 H1 σ v s1 r1 _ fun σ' G2 H2 s2 g2 _ _ => k r e F G2 H2 σ' D s2 (q.up (g1.trans g2))
theorem sm_par {i j : Nat} {ta : TA} {d1 d2 : Dt} (h : EvA K ta es [d1, d2]) (k : SM K tz ((es.set i (.d d1)).set j (.d d2)) m oc) : SM K (tSeq (tPar i j ta) tz) es m oc := fun r e F G H σ D s q =>
  h F G H σ s _ fun vs G1 H1 s1 g1 r1 => by
    cases r1 with
    | cons ra rr =>
      cases rr with
      | cons rb rn =>
        cases rn
        exact ⟨_, _, rfl, k r e F G1 H1 _ D ((s1.set ra).set rb) (q.up g1)⟩
theorem sm_if {b : Bool} {p q : Option ρ} (h : EvT K c es b) (h1 : b = true → SM K (tSeq t tz) es p oc) (h2 : b = false → SM K (tSeq u tz) es q oc) : SM K (tSeq (tIfS c t u) tz) es (if b = true then p else q) oc := fun r e F G H σ D s k =>
  h F G H σ s _ fun G1 H1 s1 g1 => by
    cases b with
    | true =>
      show t _ σ H1
      exact h1 rfl r e F G1 H1 σ D s1 (k.up g1)
    | false =>
      show u _ σ H1
      exact h2 rfl r e F G1 H1 σ D s1 (k.up g1)
theorem sm_seq {S : Type} {ms : Option S} {env : S → List Sl} {k : S → Option ρ} (h : SM K t es ms fun s => .nx (env s)) (h2 : ∀ s, ms = some s → SM K u (env s) (k s) oc) : SM K (tSeq t u) es (ms.bind k) oc := fun r e F G H σ D s q => by
  cases hm : ms with
  | none => rw [hm] at e; cases e
  | some x =>
    rw [hm] at e
    exact h x hm F G H σ _ s fun G' H' σ' s' g => h2 x hm r e F G' H' σ' D s' (q.up g)

/-! ### targets -/
theorem eg_name {i : Nat} {vs : List Nat} (hv : i ∈ vs) : EvG K (gName i) vs es d (es.set i (.d d)) := fun F G H σ v s r Q q =>
  q _ G H (s.set r) (Same.refl _) (by rw [List.length_set]) fun k hk => by rw [List.getElem?_set_ne fun e => hk (by rw [← e]; exact hv)]
/-- targets one after another -/
def EvGs (K : PySem.W.Frag) (g : TGs) (vs : List Nat) (es : List Sl) (ds : List Dt) (es' : List Sl) : Prop := ∀ F G H σ xs, Stt K F G H σ es → Reps K G xs ds → ∀ Q : L2.St → Hp → Prop,
  (∀ σ' G' H', Stt K F G' H' σ' es' → Same G G' → σ'.length = σ.length → (∀ k, k ∉ vs → σ'[k]? = σ[k]?) → Q σ' H') → g xs σ H Q
theorem egs_nil {vs : List Nat} : EvGs K gNil vs es [] es := fun F G H σ xs s r Q q => by
  cases r
  exact ⟨rfl, q σ G H s (Same.refl _) rfl fun _ _ => rfl⟩
theorem egs_cons {g : TG} {gr : TGs} {vs : List Nat} {ds : List Dt} {es1 es2 : List Sl} (h : EvG K g vs es d es1) (hr : EvGs K gr vs es1 ds es2) : EvGs K (gCons g gr) vs es (d :: ds) es2 := fun F G H σ xs s r Q q => by
  cases r with
  | cons rv rr =>
    exact ⟨_, _, rfl, h F G H σ _ s rv _ fun σ1 G1 H1 s1 g1 l1 k1 => hr F G1 H1 σ1 _ s1 (rr.mono g1) Q fun σ2 G2 H2 s2 g2 l2 k2 => q σ2 G2 H2 s2 (g1.trans g2) (l2.trans l1) fun k hk => (k2 k hk).trans (k1 k hk)⟩
theorem eg_tup {n : Nat} {g : TGs} {vs : List Nat} {ds : List Dt} {es' : List Sl} (h : EvGs K g vs es ds es') (hn : ds.length = n) : EvG K (gTup K n g) vs es (.tup ds) es' := fun F G H σ v s r Q q => by
  cases r with
  | tup hs rr =>
    exact ⟨_, _, rfl, sqT_mono s.g hs, by rw [rr.length]; exact hn, h F G H σ _ s rr Q q⟩
end

/-! ### what is walked -/
def Yields (K : PySem.W.Frag) (J : It) (G : Hp) (ds : List Dt) : Prop := ∀ i F G1 H1 σ es, Same G G1 → Stt K F G1 H1 σ es →
  (∀ d, ds[i]? = some d → J.go i H1 ∧ ∀ x H2, J.yld i H1 x H2 → ∃ G2, Stt K F G2 H2 σ es ∧ Same G1 G2 ∧ Rep K G2 x d) ∧ (ds.length ≤ i → J.stop i H1)
def EvI (K : PySem.W.Frag) (wi : TI) (es : List Sl) (ds : List Dt) : Prop := ∀ F G H σ, Stt K F G H σ es → ∀ R : It → Hp → Prop, (∀ J G' H', Stt K F G' H' σ es → Same G G' → Yields K J G' ds → R J H') → wi σ H R
section
variable {K : PySem.W.Frag} {es : List Sl} {te : TE}
theorem ei_list {ds : List Dt} (h : Ev K te es (.lst ds)) : EvI K (iList K te) es ds := fun F G H σ s R q => h F G H σ s _ fun v G1 H1 s1 g1 r1 => by
  cases r1 with
  | lst hs r =>
    refine ⟨_, rfl, ⟨_, s1.g.seq hs⟩, q _ G1 H1 s1 g1 fun i F2 G2 H2 σ2 es2 g2 s2 => ⟨fun d e => ?_, fun e => ⟨_, s2.g.seq (g2.seq hs), by rw [r.length]; exact e⟩⟩⟩
    obtain ⟨v, hv, rv⟩ := r.get e
    refine ⟨⟨_, v, s2.g.seq (g2.seq hs), hv⟩, fun x H3 y => ?_⟩
    obtain ⟨e1, y2⟩ := y
    subst e1
    have := (y2 _ (s2.g.seq (g2.seq hs))).symm.trans hv
    cases this
    exact ⟨G2, s2, Same.refl _, rv.mono g2⟩
theorem ei_tup {ds : List Dt} (h : Ev K te es (.tup ds)) : EvI K (iTup K te) es ds := fun F G H σ s R q => h F G H σ s _ fun v G1 H1 s1 g1 r1 => by
  cases r1 with
  | tup hs r =>
    refine ⟨_, rfl, ⟨_, sqT_mono s1.g hs⟩, q _ G1 H1 s1 g1 fun i F2 G2 H2 σ2 es2 g2 s2 => ⟨fun d e => ?_, fun e => ⟨_, sqT_mono s2.g (sqT_mono g2 hs), by rw [r.length]; exact e⟩⟩⟩
    obtain ⟨v, hv, rv⟩ := r.get e
    refine ⟨⟨_, v, sqT_mono s2.g (sqT_mono g2 hs), hv⟩, fun x H3 y => ?_⟩
    obtain ⟨e1, y2⟩ := y
    subst e1
    have := (y2 _ (sqT_mono s2.g (sqT_mono g2 hs))).symm.trans hv
    cases this
    exact ⟨G2, s2, Same.refl _, rv.mono g2⟩
/-- lo, .. below hi -/
def rng (lo hi : Int) : List Int := (List.range (hi - lo).toNat).map fun (i : Nat) => lo + (i : Int)
def rngC (lo hi : Int) : Option (List Int) := if -(2 ^ 62) ≤ lo ∧ lo < 2 ^ 62 ∧ -(2 ^ 62) ≤ hi ∧ hi < 2 ^ 62 then some (rng lo hi) else none
theorem yields_rng {G : Hp} {lo : Int} {n : Nat} : Yields K (Itr lo n) G (((List.range n).map fun (i : Nat) => lo + (i : Int)).map Dt.int) := fun i F G1 H1 σ es g s => by
  refine ⟨fun d e => ?_, fun e => by rw [List.length_map, List.length_map, List.length_range] at e; exact e⟩
  rw [List.getElem?_map, List.getElem?_map] at e
  by_cases hi : i < n
  · rw [List.getElem?_range hi] at e
    cases e
    refine ⟨hi, fun x H2 y => ?_⟩
    obtain ⟨e1, e2⟩ := y
    subst e1 e2
    exact ⟨G1, s, Same.refl _, .int _⟩
  · rw [List.getElem?_eq_none (by simpa using hi)] at e
    cases e
theorem ei_rng1 {ta : TA} {hi : Int} {xs : List Int} (h : EvA K ta es [.int hi]) (e : rngC 0 hi = some xs) : EvI K (iRng1 ta) es (xs.map Dt.int) := fun F G H σ s R q => h F G H σ s _ fun vs G1 H1 s1 g1 r1 => by
  obtain ⟨⟨_, _, h1, h2⟩, e⟩ := ite_some e
  subst e
  cases r1 with
  | cons ra rr =>
    cases ra
    cases rr
    refine ⟨hi, rfl, h1, h2, q _ G1 H1 s1 g1 ?_⟩
    unfold rng
    rw [Int.sub_zero]
    exact yields_rng
theorem ei_rng2 {ta : TA} {lo hi : Int} {xs : List Int} (h : EvA K ta es [.int lo, .int hi]) (e : rngC lo hi = some xs) : EvI K (iRng2 ta) es (xs.map Dt.int) := fun F G H σ s R q => h F G H σ s _ fun vs G1 H1 s1 g1 r1 => by
  obtain ⟨hh, e⟩ := ite_some e
  subst e
  cases r1 with
  | cons ra rr =>
    cases ra
    cases rr with
    | cons rb rr =>
      cases rb
      cases rr
      exact ⟨lo, hi, rfl, hh, q _ G1 H1 s1 g1 yields_rng⟩
end

/-! ### loops -/
inductive Fl (S R : Type) where
  | nx (s : S) | bk (s : S) | rt (r : R)
def Fl.step {S R : Type} (k : S → Option (Fl S R)) : Fl S R → Option (Fl S R)
  | .nx s => k s
  | .bk s => some (.bk s)
  | .rt r => some (.rt r)
def Fl.thn {S R ρ : Type} (k : S → Option ρ) (e : R → ρ) : Fl S R → Option ρ
  | .nx s => k s
  | .bk s => k s
  | .rt r => some (e r)
def forF {α S R : Type} : List α → S → (α → S → Option (Fl S R)) → Option (Fl S R)
  | [], s, _ => some (.nx s)
  | x :: xs, s, f => (f x s).bind (Fl.step fun s' => forF xs s' f)
def forL {α S : Type} : List α → S → (α → S → Option S) → Option S
  | [], s, _ => some s
  | x :: xs, s, f => (f x s).bind fun s' => forL xs s' f
def bodyRes {S R : Type} (env : S → List Sl) (ed : R → Dt) (ee : R → List Sl) : Fl S R → Res
  | .nx s => .go (env s) | .bk s => .bk (env s) | .rt r => .rt (ed r) (ee r)
def loopRes {S R : Type} (env : S → List Sl) (ed : R → Dt) (ee : R → List Sl) : Fl S R → Res
  | .nx s => .nx (env s) | .bk s => .nx (env s) | .rt r => .rt (ed r) (ee r)
/-- behind a loop that may have returned -/
def thenF {S R ρ : Type} (m : Option (Fl S R)) (k : S → Option ρ) (e : R → ρ) : Option ρ := m.bind (Fl.thn k e)
section
variable {K : PySem.W.Frag} {es : List Sl} {α S R ρ : Type} {t u tb : TS} {oc : ρ → Res}
theorem sm_for {xs : List α} {em : α → Dt} {wi : TI} {g : TG} {vs : List Nat} {env : S → List Sl} {en2 : α → S → List Sl} {ed : R → Dt} {ee : R → List Sl} {s0 : S} {f : α → S → Option (Fl S R)}
    (hi : EvI K wi es (xs.map em)) (w : Wk es (env s0)) (hg : ∀ x s, EvG K g vs (env s) (em x) (en2 x s)) (hb : ∀ x s, x ∈ xs → SM K tb (en2 x s) (f x s) (bodyRes env ed ee)) :
    SM K (tFor wi g tb) es (forF xs s0 f) (loopRes env ed ee) := fun r e F G H σ D st q => by
  refine hi F G H σ st _ fun J G1 H1 s1 g1 y => ?_
  refine ⟨fun i m σ' H' => ∃ G' s, Stt K F G' H' σ' (env s) ∧ Same G1 G' ∧ m = xs.length - i ∧ i ≤ xs.length ∧ forF (xs.drop i) s f = some r, ⟨_, G1, s0, s1.wk w, Same.refl _, rfl, Nat.zero_le _, e⟩, ?_⟩
  rintro i m σ' H' ⟨G', s, st', g', rfl, hle, e'⟩
  by_cases hlt : i < xs.length
  · refine .inr ?_
    have hd : xs.drop i = xs[i] :: xs.drop (i + 1) := List.drop_eq_getElem_cons hlt
    rw [hd] at e'
    have hmem : xs[i] ∈ xs := List.getElem_mem hlt
    cases hf : f xs[i] s with
    | none =>
      have : forF (xs[i] :: xs.drop (i + 1)) s f = none := by
        show (f xs[i] s).bind _ = none
        rw [hf]
        rfl
      rw [this] at e'
      cases e'
    | some o =>
      obtain ⟨go, yld⟩ := (y i F G' H' σ' (env s) g' st').1 (em xs[i]) (by rw [List.getElem?_map, List.getElem?_eq_getElem hlt]; rfl)
      refine ⟨go, fun σ2 H2 => ∃ G2 s2, Stt K F G2 H2 σ2 (env s2) ∧ Same G1 G2 ∧ forF (xs.drop (i + 1)) s2 f = some r, fun σ2 H2 ⟨G2, s2, a1, a2, a3⟩ => ⟨xs.length - (i + 1), by omega, G2, s2, a1, a2, rfl, by omega, a3⟩, fun x H2 hy => ?_⟩
      obtain ⟨G2, st2, g2, rx⟩ := yld x H2 hy
      refine hg xs[i] s F G2 H2 σ' x st2 rx _ fun σ3 G3 H3 st3 g3 _ _ => ?_
      refine hb xs[i] s hmem o hf F G3 H3 σ3 _ st3 ?_
      have e2 : Fl.step (fun s' => forF (xs.drop (i + 1)) s' f) o = some r := by
        have : forF (xs[i] :: xs.drop (i + 1)) s f = Fl.step (fun s' => forF (xs.drop (i + 1)) s' f) o := by
          show (f xs[i] s).bind _ = _
          rw [hf]
          rfl
        rw [← this]
        exact e'
      have gg := g1.trans (g'.trans (g2.trans g3))
      cases o with
      | nx s' => exact ⟨fun G4 H4 σ4 st4 g4 => ⟨G4, s', st4, g'.trans (g2.trans (g3.trans g4)), e2⟩, fun G4 H4 σ4 st4 g4 => ⟨G4, s', st4, g'.trans (g2.trans (g3.trans g4)), e2⟩⟩
      | bk s' =>
        cases e2
        exact q.up gg
      | rt r' =>
        cases e2
        exact q.up gg
  · have e3 : i = xs.length := by omega
    subst e3
    refine .inl ⟨(y xs.length F G' H' σ' (env s) g' st').2 (by simp), ?_⟩
    rw [List.drop_length] at e'
    cases e'
    exact q G' H' σ' st' (g1.trans g')
theorem forF_forL {f : α → S → Option S} : ∀ {xs : List α} {s0 : S}, forF (R := Empty) xs s0 (fun x s => (f x s).bind fun s' => some (.nx s')) = (forL xs s0 f).bind fun s => some (.nx s)
  | [], s0 => rfl
  | x :: xs, s0 => by
    show ((f x s0).bind fun s' => some (Fl.nx s')).bind _ = ((f x s0).bind _).bind _
    cases f x s0 with
    | none => rfl
    | some s' => exact forF_forL (f := f) (xs := xs) (s0 := s')
/-- a loop that is left at its end alone -/
theorem sm_forL {xs : List α} {em : α → Dt} {wi : TI} {g : TG} {vs : List Nat} {env : S → List Sl} {en2 : α → S → List Sl} {s0 : S} {f : α → S → Option S}
    (hi : EvI K wi es (xs.map em)) (w : Wk es (env s0)) (hg : ∀ x s, EvG K g vs (env s) (em x) (en2 x s)) (hb : ∀ x s, x ∈ xs → SM K tb (en2 x s) (f x s) fun s' => .go (env s')) :
    SM K (tFor wi g tb) es (forL xs s0 f) fun s => .nx (env s) := fun r e => by
  have h := sm_for (R := Empty) (ed := fun _ => .non) (ee := fun _ => []) (f := fun x s => (f x s).bind fun s' => some (.nx s')) hi w hg fun x s hx => sm_bind fun s' hs => sm_some (hb x s hx s' hs)
  refine h (Fl.nx r) ?_
  rw [forF_forL (f := f), e]
  rfl
theorem sm_thenF {m : Option (Fl S R)} {k : S → Option ρ} {er : R → ρ} {env : S → List Sl} {ed : R → Dt} {ee : R → List Sl} (h : SM K t es m (loopRes env ed ee)) (h2 : ∀ s, SM K u (env s) (k s) oc) (h3 : ∀ r, oc (er r) = .rt (ed r) (ee r)) :
    SM K (tSeq t u) es (thenF m k er) oc := fun r e F G H σ D st q => by
  unfold thenF at e
  cases hm : m with
  | none => rw [hm] at e; cases e
  | some o =>
    rw [hm] at e
    refine h o hm F G H σ _ st ?_
    cases o with
    | nx s => exact fun G' H' σ' s' g => h2 s r e F G' H' σ' D s' (q.up g)
    | bk s => exact fun G' H' σ' s' g => h2 s r e F G' H' σ' D s' (q.up g)
    | rt x =>
      cases e
      have q' : Good K F G D (.rt (ed x) (ee x)) := (h3 x) ▸ q
      exact q'

/-! while -/
def whileF {S R : Type} : Nat → S → (S → Option Bool) → (S → Option (Fl S R)) → Option (Fl S R)
  | 0, _, _, _ => none
  | n + 1, s, c, f => (c s).bind fun b => if b = true then (f s).bind (Fl.step fun s' => whileF n s' c f) else some (.nx s)
theorem sm_while {c : TT} {n : Nat} {env : S → List Sl} {ed : R → Dt} {ee : R → List Sl} {s0 : S} {cf : S → Option Bool} {f : S → Option (Fl S R)} (w : Wk es (env s0))
    (hc : ∀ s b, cf s = some b → EvT K c (env s) b) (hb : ∀ s, SM K tb (env s) (f s) (bodyRes env ed ee)) : SM K (tWhile c tb) es (whileF n s0 cf f) (loopRes env ed ee) := fun r e F G H σ D st q => by
  refine ⟨fun m σ' H' => ∃ G' s, Stt K F G' H' σ' (env s) ∧ Same G G' ∧ whileF m s cf f = some r, ⟨n, G, s0, st.wk w, Same.refl _, e⟩, ?_⟩
  rintro m σ' H' ⟨G', s, st', g', e'⟩
  cases m with
  | zero => cases e'
  | succ m =>
    cases hq : cf s with
    | none =>
      have : whileF (m + 1) s cf f = none := by
        show (cf s).bind _ = none
        rw [hq]
        rfl
      rw [this] at e'
      cases e'
    | some b =>
      have e2 : (if b = true then (f s).bind (Fl.step fun s' => whileF m s' cf f) else some (.nx s)) = some r := by
        rw [← e']
        show _ = (cf s).bind _
        rw [hq]
        rfl
      refine hc s b hq F G' H' σ' st' _ fun G1 H1 s1 g1 => ?_
      cases b with
      | false =>
        cases e2
        exact q G1 H1 σ' s1 (g'.trans g1)
      | true =>
        have e3 : ((f s).bind (Fl.step fun s' => whileF m s' cf f)) = some r := e2
        cases hf : f s with
        | none => rw [hf] at e3; cases e3
        | some o =>
          rw [hf] at e3
          refine ⟨fun σ2 H2 => ∃ G2 s2, Stt K F G2 H2 σ2 (env s2) ∧ Same G G2 ∧ whileF m s2 cf f = some r, fun σ2 H2 ⟨G2, s2, a1, a2, a3⟩ => ⟨m, Nat.lt_succ_self m, G2, s2, a1, a2, a3⟩, ?_⟩
          refine hb s o hf F G1 H1 σ' _ s1 ?_
          have gg := g'.trans g1
          cases o with
          | nx s' => exact ⟨fun G4 H4 σ4 st4 g4 => ⟨G4, s', st4, gg.trans g4, e3⟩, fun G4 H4 σ4 st4 g4 => ⟨G4, s', st4, gg.trans g4, e3⟩⟩
          | bk s' =>
            cases e3
            exact q.up gg
          | rt r' =>
            cases e3
            exact q.up gg
end

/-! ### new lists -/
def EvL (K : PySem.W.Frag) (te : TE) (es : List Sl) (ds : List Dt) : Prop := ∀ F G H σ, Stt K F G H σ es → ∀ Q : VK, (∀ p vs G' H', Stt K (upd F p (.lst vs)) G' H' σ es → F p = none → Same G G' → Reps K G' vs ds → Q (.ref p) H') → te σ H Q
/-! ### comprehensions -/
def consO {β : Type} : Option β → List β → List β
  | none, ys => ys
  | some y, ys => y :: ys
def compO {α β : Type} : List α → (α → Option (Option β)) → Option (List β)
  | [], _ => some []
  | x :: xs, f => (f x).bind fun o => (compO xs f).bind fun ys => some (consO o ys)
def wipeS (es : List Sl) : List Nat → List Sl
  | [] => es
  | v :: vs => (wipeS es vs).set v .un
section
variable {K : PySem.W.Frag} {F G H : Hp} {σ : L2.St} {es : List Sl} {p : Addr} {o o' : HO}
theorem upd_none {H : Hp} {p q : Addr} {o : HO} (h : upd H p o q = none) : q ≠ p ∧ H q = none := by
  by_cases e : q = p
  · subst e
    rw [upd_same] at h
    cases h
  · rw [upd_ne e] at h
    exact ⟨e, h⟩
theorem Stt.prot (s : Stt K F G H σ es) (h : H p = none) : Stt K (upd F p o) G (upd H p o) σ es where
  f := fun a u e => by
    by_cases q : a = p
    · subst q
      rw [upd_same] at e ⊢
      exact e
    · rw [upd_ne q] at e ⊢
      exact s.f a u e
  g := s.g.trans (same_upd h)
  dj := fun a u e => by
    by_cases q : a = p
    · subst q
      exact s.gnone h
    · rw [upd_ne q] at e
      exact s.dj a u e
  len := s.len
  sl := fun i t e => by
    obtain ⟨x, hx, k⟩ := s.sl i t e
    refine ⟨x, hx, k.grow (Same.refl _) (fun q u _ _ e => by rw [upd_ne (ne_of_none e h)]; exact e) fun q g ⟨u, hu⟩ f => ⟨g, ?_⟩⟩
    rw [upd_ne (ne_of_none hu h)]
    exact f
  ow := s.ow
theorem Stt.reprot (s : Stt K (upd F p o) G H σ es) : Stt K (upd F p o') G (upd H p o') σ es := by
  have gp : G p = none := s.dj p o upd_same
  refine ⟨fun a u e => ?_, fun a u e => ?_, fun a u e => ?_, s.len, fun i t e => ?_, s.ow⟩
  · by_cases q : a = p
    · subst q
      rw [upd_same] at e ⊢
      exact e
    · rw [upd_ne q] at e ⊢
      exact s.f a u (by rw [upd_ne q]; exact e)
  · rw [upd_ne fun q => by subst q; rw [gp] at e; cases e]
    exact s.g a u e
  · by_cases q : a = p
    · subst q
      exact gp
    · rw [upd_ne q] at e
      exact s.dj a u (by rw [upd_ne q]; exact e)
  · obtain ⟨x, hx, k⟩ := s.sl i t e
    refine ⟨x, hx, k.grow (Same.refl _) (fun q u _ f e => by rw [upd_ne (upd_none f).1]; exact e) fun q g _ f => ⟨g, ?_⟩⟩
    rw [upd_ne (upd_none f).1]
    exact (upd_none f).2
theorem Stt.give (s : Stt K (upd F p o) G H σ es) (hF : F p = none) : Stt K F (upd G p o) H σ es := by
  have gp : G p = none := s.dj p o upd_same
  refine ⟨fun a u e => s.f a u (by rw [upd_ne (ne_of_none e hF)]; exact e), fun a u e => ?_, fun a u e => ?_, s.len, fun i t e => ?_, s.ow⟩
  · by_cases q : a = p
    · subst q
      exact s.f a u (by rw [upd_same] at e ⊢; exact e)
    · rw [upd_ne q] at e
      exact s.g a u e
  · have ne := ne_of_none e hF
    rw [upd_ne ne]
    exact s.dj a u (by rw [upd_ne ne]; exact e)
  · obtain ⟨x, hx, k⟩ := s.sl i t e
    refine ⟨x, hx, k.grow (same_upd gp) (fun q u _ _ e => e) fun q g _ f => ⟨?_, (upd_none f).2⟩⟩
    rw [upd_ne (upd_none f).1]
    exact g
theorem wipe_get : ∀ {vs : List Nat} {σ : L2.St} {k : Nat}, k ∉ vs → (wipe σ vs)[k]? = σ[k]?
  | [], _, _, _ => rfl
  | v :: vs, σ, k, h => by
    unfold wipe
    rw [List.getElem?_set_ne fun e => h (by rw [e]; exact List.mem_cons_self)]
    exact wipe_get fun e => h (List.mem_cons_of_mem _ e)
theorem wipe_in : ∀ {vs : List Nat} {σ : L2.St} {k : Nat}, k ∈ vs → k < σ.length → (wipe σ vs)[k]? = some none
  | v :: vs, σ, k, h, hl => by
    unfold wipe
    by_cases e : v = k
    · subst e
      exact List.getElem?_set_self (by rw [wipe_length]; exact hl)
    · rw [List.getElem?_set_ne e]
      rcases List.mem_cons.mp h with z | z
      · exact absurd z.symm e
      · exact wipe_in z hl
theorem wipe_ext {vs : List Nat} {σ' : L2.St} (hl : σ'.length = σ.length) (h : ∀ k, k ∉ vs → σ'[k]? = σ[k]?) : wipe σ' vs = wipe σ vs := by
  refine List.ext_getElem? fun k => ?_
  by_cases hk : k ∈ vs
  · by_cases hlt : k < σ.length
    · rw [wipe_in hk hlt, wipe_in hk (by rw [hl]; exact hlt)]
    · rw [List.getElem?_eq_none (by rw [wipe_length]; omega), List.getElem?_eq_none (by rw [wipe_length]; omega)]
  · rw [wipe_get hk, wipe_get hk, h k hk]
theorem wipeS_len : ∀ {vs : List Nat} {es : List Sl}, (wipeS es vs).length = es.length
  | [], _ => rfl
  | v :: vs, es => by
    unfold wipeS
    rw [List.length_set, wipeS_len]
theorem wipeS_get : ∀ {vs : List Nat} {es : List Sl} {k : Nat} {s : Sl}, (wipeS es vs)[k]? = some s → s = .un ∨ (k ∉ vs ∧ es[k]? = some s)
  | [], _, _, _, h => .inr ⟨by simp, h⟩
  | v :: vs, es, k, s, h => by
    unfold wipeS at h
    by_cases e : v = k
    · subst e
      have hj : v < (wipeS es vs).length := by
        have := (List.getElem?_eq_some_iff.mp h).1
        rwa [List.length_set] at this
      rw [List.getElem?_set_self hj] at h
      cases h
      exact .inl rfl
    · rw [List.getElem?_set_ne e] at h
      rcases wipeS_get h with z | ⟨z1, z2⟩
      · exact .inl z
      · refine .inr ⟨fun q => ?_, z2⟩
        rcases List.mem_cons.mp q with q | q
        · exact e q.symm
        · exact z1 q
theorem Stt.wipe (s : Stt K F G H σ es) (vs : List Nat) : Stt K F G H (L2.wipe σ vs) (wipeS es vs) where
  f := s.f
  g := s.g
  dj := s.dj
  len := by rw [wipe_length, wipeS_len]; exact s.len
  sl := fun i t e => by
    rcases wipeS_get e with z | ⟨z1, z2⟩
    · subst z
      have hi : i < (L2.wipe σ vs).length := by
        have := (List.getElem?_eq_some_iff.mp e).1
        rwa [wipeS_len, ← s.len, ← wipe_length σ vs] at this
      exact ⟨_, List.getElem?_eq_getElem hi, trivial⟩
    · rw [wipe_get z1]
      exact s.sl i t z2
  ow := fun i j t u ne ei ej hi hj => by
    rcases wipeS_get ei with z | ⟨z1, z2⟩
    · subst z; cases hi
    · rcases wipeS_get ej with z | ⟨w1, w2⟩
      · subst z; cases hj
      · rw [wipe_get z1, wipe_get w1]
        exact s.ow i j t u ne z2 w2 hi hj
end
section
variable {K : PySem.W.Frag} {es : List Sl} {α β : Type}
theorem compO_len {f : α → Option (Option β)} : ∀ {xs : List α} {ys : List β}, compO xs f = some ys → ys.length ≤ xs.length
  | [], ys, h => by cases h; exact Nat.le_refl _
  | x :: xs, ys, h => by
    unfold compO at h
    cases hx : f x with
    | none => rw [hx] at h; cases h
    | some o =>
      rw [hx] at h
      cases hr : compO xs f with
      | none => rw [hr] at h; cases h
      | some zs =>
        rw [hr] at h
        have ih := compO_len hr
        cases o with
        | none => cases h; exact Nat.le_succ_of_le ih
        | some y => cases h; exact Nat.succ_le_succ ih
/-- behind a block: the frame's slots, all of them data -/
theorem Stt.swap {F G1 H1 G2 H2 : Hp} {σ σ2 : L2.St} {es2 : List Sl} (s : Stt K F G1 H1 σ es) (hd : es.all (fun t => !t.isOwn) = true) (s2 : Stt K F G2 H2 σ2 es2) (g : Same G1 G2) : Stt K F G2 H2 σ es where
  f := s2.f
  g := s2.g
  dj := s2.dj
  len := s.len
  sl := fun i t e => by
    obtain ⟨x, hx, k⟩ := s.sl i t e
    refine ⟨x, hx, ?_⟩
    have := List.all_eq_true.mp hd t (List.mem_of_getElem? e)
    cases t with
    | un => trivial
    | d x =>
      obtain ⟨v, e, r⟩ := k
      exact ⟨v, e, r.mono g⟩
    | own _ _ => cases this
    | obo _ _ _ => cases this
  ow := s.ow
/-- [e for x in xs if ..]: the list's own place is kept aside while the items are made -/
theorem el_comp {wi : TI} {g : TG} {tt : TT} {te : TE} {vs : List Nat} {xs : List α} {em : α → Dt} {em2 : β → Dt} {f : α → Option (Option β)} {ys : List β} {en2 : α → List Sl}
    (hi : EvI K wi es (xs.map em)) (hz : xs.length ≤ 1000000) (hg : ∀ x, EvG K g vs (wipeS es vs) (em x) (en2 x))
    (hb : ∀ x o, x ∈ xs → f x = some o → EvT K tt (en2 x) o.isSome ∧ ∀ y, o = some y → Ev K te (en2 x) (em2 y)) (hd : es.all (fun t => !t.isOwn) = true) (h : compO xs f = some ys) : EvL K (tLc wi g tt te vs) es (ys.map em2) := fun F G H σ st Q q => by
  refine hi F G H σ st _ fun J G1 H1 s1 g1 y => fun Dl hD => ?_
  have hF : F Dl = none := s1.fnone hD
  have sz : (1000000 : Nat) < sizeLine := by decide
  refine ⟨fun i m H' => ∃ (G' : Hp) (acc : List V) (zs rest : List β), Stt K (upd F Dl (.lst acc)) G' H' σ es ∧ Same G1 G' ∧ Reps K G' acc (zs.map em2) ∧ zs.length ≤ i ∧ compO (xs.drop i) f = some rest ∧ zs ++ rest = ys ∧ m = xs.length - i ∧ i ≤ xs.length,
    ⟨_, G1, [], [], ys, s1.prot hD, Same.refl _, .nil, Nat.zero_le _, h, rfl, rfl, Nat.zero_le _⟩, ?_⟩
  rintro i m H' ⟨G', acc, zs, rest, st', g', racc, hzl, hc, hap, rfl, hle⟩
  by_cases hlt : i < xs.length
  · refine .inr ?_
    have hdr : xs.drop i = xs[i] :: xs.drop (i + 1) := List.drop_eq_getElem_cons hlt
    have hmem : xs[i] ∈ xs := List.getElem_mem hlt
    rw [hdr] at hc
    cases hf : f xs[i] with
    | none =>
      have : compO (xs[i] :: xs.drop (i + 1)) f = none := by
        show (f xs[i]).bind _ = none
        rw [hf]
        rfl
      rw [this] at hc
      cases hc
    | some o =>
      cases hr : compO (xs.drop (i + 1)) f with
      | none =>
        have : compO (xs[i] :: xs.drop (i + 1)) f = none := by
          show (f xs[i]).bind _ = none
          rw [hf]
          show (compO (xs.drop (i + 1)) f).bind _ = none
          rw [hr]
          rfl
        rw [this] at hc
        cases hc
      | some rest' =>
        have hc' : rest = consO o rest' := by
          have : compO (xs[i] :: xs.drop (i + 1)) f = some (consO o rest') := by
            show (f xs[i]).bind _ = _
            rw [hf]
            show (compO (xs.drop (i + 1)) f).bind _ = _
            rw [hr]
            rfl
          rw [this] at hc
          exact (Option.some.inj hc).symm
        obtain ⟨go, yld⟩ := (y i _ G' H' σ es g' st').1 (em xs[i]) (by rw [List.getElem?_map, List.getElem?_eq_getElem hlt]; rfl)
        refine ⟨go, fun H2 => ∃ (G2 : Hp) (acc2 : List V) (zs2 rest2 : List β), Stt K (upd F Dl (.lst acc2)) G2 H2 σ es ∧ Same G1 G2 ∧ Reps K G2 acc2 (zs2.map em2) ∧ zs2.length ≤ i + 1 ∧ compO (xs.drop (i + 1)) f = some rest2 ∧ zs2 ++ rest2 = ys,
          fun H2 ⟨G2, acc2, zs2, rest2, a1, a2, a3, a4, a5, a6⟩ => ⟨xs.length - (i + 1), by omega, G2, acc2, zs2, rest2, a1, a2, a3, a4, a5, a6, rfl, by omega⟩, fun x H2 hy => ?_⟩
        obtain ⟨G2, st2, g2, rx⟩ := yld x H2 hy
        obtain ⟨htt, hte⟩ := hb xs[i] o hmem hf
        -- the block: its slots are wiped; the frame comes back by Stt.frame
        refine hg xs[i] (upd F Dl (.lst acc)) G2 H2 (L2.wipe σ vs) x (st2.wipe vs) rx _ fun σ3 G3 H3 st3 g3 l3 k3 => ?_
        refine ⟨by rw [wipe_ext (σ := L2.wipe σ vs) l3 k3]; exact wipe_ext (wipe_length _ _) fun k hk => wipe_get hk, ?_⟩
        refine htt _ G3 H3 σ3 st3 _ fun G4 H4 st4 g4 => ?_
        have gg : Same G' G4 := g2.trans (g3.trans g4)
        cases o with
        | none => exact ⟨G4, acc, zs, rest, st2.swap hd st4 (g3.trans g4), g'.trans gg, racc.mono gg, Nat.le_succ_of_le hzl, by rw [hr, hc']; rfl, hap⟩
        | some yv =>
          show te σ3 H4 _
          refine hte yv rfl _ G4 H4 σ3 st4 _ fun v G5 H5 st5 g5 r5 => ?_
          have hzl2 : acc.length ≤ i := by
            have := racc.length
            rw [List.length_map] at this
            omega
          refine ⟨acc, st5.f Dl _ upd_same, by omega, G5, acc ++ [v], zs ++ [yv], rest', (st2.swap hd st5 (g3.trans (g4.trans g5))).reprot, g'.trans (gg.trans g5), ?_, ?_, hr, ?_⟩
          · rw [List.map_append]
            exact (racc.mono (gg.trans g5)).append (.cons r5 .nil)
          · rw [List.length_append, List.length_singleton]
            omega
          · rw [List.append_assoc]
            have : rest = yv :: rest' := hc'
            rw [this] at hap
            exact hap
  · have e3 : i = xs.length := by omega
    subst e3
    refine .inl ⟨(y xs.length _ G' H' σ es g' st').2 (by simp), ?_⟩
    rw [List.drop_length] at hc
    cases hc
    rw [List.append_nil] at hap
    subst hap
    exact q Dl acc G' H' st' hF (g1.trans g') racc
end
end DL

namespace DL
open PySem L2

/-! ### lists that one fills -/
section
variable {K : PySem.W.Frag} {F G H : Hp} {σ : L2.St} {es : List Sl} {p : Addr} {o o' : HO}
/-- an object kept aside becomes a slot's -/
theorem Stt.take {vs : List V} {ds : List Dt} {i : Nat} (s : Stt K (upd F p (.lst vs)) G H σ es) (hF : F p = none) (r : Reps K G vs ds) : Stt K F G H (σ.set i (some (.ref p))) (es.set i (.own none ds)) := by
  have gp : G p = none := s.dj p _ upd_same
  have hp : H p = some (.lst vs) := s.f p _ upd_same
  have up : ∀ {q : Addr} {u : HO}, F q = some u → upd F p (.lst vs) q = some u := fun {q u} e => by rw [upd_ne (ne_of_none e hF)]; exact e
  refine ⟨fun a u e => s.f a u (up e), s.g, fun a u e => s.dj a u (up e), by rw [List.length_set, List.length_set]; exact s.len, fun j t e => ?_, fun a b t u ne ea eb ha hb => ?_⟩
  · by_cases q : i = j
    · subst q
      have hj : i < es.length := by
        have := (List.getElem?_eq_some_iff.mp e).1
        rwa [List.length_set] at this
      rw [List.getElem?_set_self hj] at e
      cases e
      exact ⟨_, List.getElem?_set_self (by rw [s.len]; exact hj), p, vs, rfl, gp, hF, hp, r, fun q e => nomatch e⟩
    · rw [List.getElem?_set_ne q] at e
      rw [List.getElem?_set_ne q]
      obtain ⟨x, hx, k⟩ := s.sl j t e
      exact ⟨x, hx, k.grow (Same.refl _) (fun q u _ _ e => e) fun q g _ f => ⟨g, (upd_none f).2⟩⟩
  · have other : ∀ j z, i ≠ j → (es.set i (.own none ds))[j]? = some z → z.isOwn = true → σ[j]? ≠ some (some (.ref p)) := fun j z nj ej hz q => by
      rw [List.getElem?_set_ne nj] at ej
      obtain ⟨x, hx, k⟩ := s.sl j z ej
      rw [hx] at q
      cases q
      cases z with
      | un => cases hz
      | d x => cases hz
      | own a xs =>
        obtain ⟨p', vs', e, _, f, _⟩ := k
        cases e
        rw [upd_same] at f
        cases f
      | obo a C fs =>
        obtain ⟨p', dx, vs', e, _, f, _⟩ := k
        cases e
        rw [upd_same] at f
        cases f
    by_cases na : i = a
    · subst na
      have hj : i < es.length := by
        have := (List.getElem?_eq_some_iff.mp ea).1
        rwa [List.length_set] at this
      rw [List.getElem?_set_self (by rw [s.len]; exact hj), List.getElem?_set_ne ne]
      exact fun q => other b u ne eb hb q.symm
    · by_cases nb : i = b
      · subst nb
        have hj : i < es.length := by
          have := (List.getElem?_eq_some_iff.mp eb).1
          rwa [List.length_set] at this
        rw [List.getElem?_set_self (by rw [s.len]; exact hj), List.getElem?_set_ne na]
        exact other a t na ea ha
      · rw [List.getElem?_set_ne na] at ea ⊢
        rw [List.getElem?_set_ne nb] at eb ⊢
        exact s.ow a b t u ne ea eb ha hb
/-- a slot's own object is written -/
theorem Stt.write {i : Nat} {t t' : Sl} (s : Stt K F G H σ es) (e : es[i]? = some t) (ht : t.isOwn = true) (ht' : t'.isOwn = true) (hs : σ[i]? = some (some (.ref p))) (k : SlOk K F G (upd H p o) (some (.ref p)) t') (hg : G p = none) (hf : F p = none) : Stt K F G (upd H p o) σ (es.set i t') where
  f := fun a u e => by
    rw [upd_ne (ne_of_none e hf)]
    exact s.f a u e
  g := fun a u e => by
    rw [upd_ne (ne_of_none e hg)]
    exact s.g a u e
  dj := s.dj
  len := by rw [List.length_set]; exact s.len
  sl := fun j u ej => by
    by_cases q : i = j
    · subst q
      have hj := (List.getElem?_eq_some_iff.mp ej).1
      rw [List.length_set] at hj
      rw [List.getElem?_set_self hj] at ej
      cases ej
      exact ⟨_, hs, k⟩
    · rw [List.getElem?_set_ne q] at ej
      obtain ⟨x, hx, kk⟩ := s.sl j u ej
      refine ⟨x, hx, ?_⟩
      cases u with
      | un => trivial
      | d x => exact kk
      | own a xs =>
        obtain ⟨p', vs', e', g', f', hp', r', a'⟩ := kk
        have ne : p' ≠ p := fun z => by
          subst z
          refine s.ow i j t _ q e ej ht rfl ?_
          rw [hs, hx, e']
        exact ⟨p', vs', e', g', f', by rw [upd_ne ne]; exact hp', r', a'⟩
      | obo a C fs =>
        obtain ⟨p', dx, vs', e', g', f', hp', r', a'⟩ := kk
        have ne : p' ≠ p := fun z => by
          subst z
          refine s.ow i j t _ q e ej ht rfl ?_
          rw [hs, hx, e']
        exact ⟨p', dx, vs', e', g', f', by rw [upd_ne ne]; exact hp', r', a'⟩
  ow := fun a b u w ne ea eb ha hb => by
    have old : ∀ (j : Nat) (z : Sl), (es.set i t')[j]? = some z → z.isOwn = true → ∃ y : Sl, es[j]? = some y ∧ y.isOwn = true := fun j z ej hz => by
      by_cases q : i = j
      · subst q
        exact ⟨t, e, ht⟩
      · rw [List.getElem?_set_ne q] at ej
        exact ⟨z, ej, hz⟩
    obtain ⟨y1, h1, k1⟩ := old a u ea ha
    obtain ⟨y2, h2, k2⟩ := old b w eb hb
    exact s.ow a b y1 y2 ne h1 h2 k1 k2
/-- a slot's own object is data from now on -/
theorem Stt.freeze {i : Nat} {t : Sl} {u : HO} {d : Dt} (s : Stt K F G H σ es) (e : es[i]? = some t) (ht : t.isOwn = true) (hs : σ[i]? = some (some (.ref p))) (hp : H p = some u) (hg : G p = none) (hf : F p = none) (r : Rep K (upd G p u) (.ref p) d) : Stt K F (upd G p u) H σ (es.set i (.d d)) where
  f := s.f
  g := fun a w e => by
    by_cases q : a = p
    · subst q
      rw [upd_same] at e
      cases e
      exact hp
    · rw [upd_ne q] at e
      exact s.g a w e
  dj := fun a w e => by
    rw [upd_ne (ne_of_none e hf)]
    exact s.dj a w e
  len := by rw [List.length_set]; exact s.len
  sl := fun j w ej => by
    by_cases q : i = j
    · subst q
      have hj := (List.getElem?_eq_some_iff.mp ej).1
      rw [List.length_set] at hj
      rw [List.getElem?_set_self hj] at ej
      cases ej
      exact ⟨_, hs, _, rfl, r⟩
    · rw [List.getElem?_set_ne q] at ej
      obtain ⟨x, hx, kk⟩ := s.sl j w ej
      refine ⟨x, hx, ?_⟩
      cases w with
      | un => trivial
      | d x =>
        obtain ⟨v, e', r'⟩ := kk
        exact ⟨v, e', r'.mono (same_upd hg)⟩
      | own a xs =>
        obtain ⟨p', vs', e', g', f', hp', r', a'⟩ := kk
        have ne : p' ≠ p := fun z => by
          subst z
          refine s.ow i j t _ q e ej ht rfl ?_
          rw [hs, hx, e']
        exact ⟨p', vs', e', by rw [upd_ne ne]; exact g', f', hp', r'.mono (same_upd hg), a'⟩
      | obo a C fs =>
        obtain ⟨p', dx, vs', e', g', f', hp', r', a'⟩ := kk
        have ne : p' ≠ p := fun z => by
          subst z
          refine s.ow i j t _ q e ej ht rfl ?_
          rw [hs, hx, e']
        exact ⟨p', dx, vs', e', by rw [upd_ne ne]; exact g', f', hp', r'.mono (same_upd hg), a'⟩
  ow := fun a b u w ne ea eb ha hb => by
    have old : ∀ (j : Nat) (z : Sl), (es.set i (.d d))[j]? = some z → z.isOwn = true → es[j]? = some z := fun j z ej hz => by
      by_cases q : i = j
      · subst q
        have hj := (List.getElem?_eq_some_iff.mp ej).1
        rw [List.length_set] at hj
        rw [List.getElem?_set_self hj] at ej
        cases ej
        cases hz
      · rw [List.getElem?_set_ne q] at ej
        exact ej
    exact s.ow a b u w ne (old a u ea ha) (old b w eb hb) ha hb
end
section
variable {K : PySem.W.Frag} {es es' : List Sl} {ρ : Type} {t u tz : TS} {m : Option ρ} {oc : ρ → Res} {te ta tb : TE} {d : Dt} {ds : List Dt}
theorem el_lst {t : TA} (h : EvA K t es ds) (hl : ds.length ≤ 100000) : EvL K (tLst t) es ds := fun F G H σ s Q q =>
  h F G H σ s _ fun xs G1 H1 s1 g1 r1 => ⟨by rw [r1.length]; exact Nat.le_trans hl (by decide), fun p hp => q p xs G1 _ (s1.prot hp) (s1.fnone hp) g1 r1⟩
theorem ev_new (h : EvL K te es ds) : Ev K te es (.lst ds) := fun F G H σ s Q q =>
  h F G H σ s Q fun p vs G' H' s' hF g r => q _ _ H' (s'.give hF) (g.trans (same_upd (s'.dj p _ upd_same))) (.lst (.inl (.inl upd_same)) (r.mono (same_upd (s'.dj p _ upd_same))))
theorem el_is {ds' : List Dt} (h : EvL K te es ds) (e : ds = ds') : EvL K te es ds' := e ▸ h
theorem sm_own {i : Nat} (h : EvL K te es ds) (he : es.set i (.own none ds) = es') (k : SM K tz es' m oc) : SM K (tSeq (tAsg te (gName i)) tz) es m oc := fun r e F G H σ D s q =>
  h F G H σ s _ fun p vs G1 H1 s1 hF g1 r1 => k r e F G1 H1 _ D (he ▸ s1.take hF r1) (q.up g1)
theorem sm_set {i : Nat} (h : Ev K te es d) (he : es.set i (.d d) = es') (k : SM K tz es' m oc) : SM K (tSeq (tAsg te (gName i)) tz) es m oc := sm_asg h (he ▸ k)
def appC {α : Type} (xs : List α) (x : α) : Option (List α) := if xs.length < 10000000 then some (xs ++ [x]) else none
theorem sm_app {α : Type} {em : α → Dt} {xs ys : List α} {x : α} {i : Nat} {a : Option Addr} (hi : es[i]? = some (.own a (xs.map em))) (h : Ev K te es (em x)) (hy : appC xs x = some ys) (he : es.set i (.own a (ys.map em)) = es') (k : SM K tz es' m oc) :
    SM K (tSeq (tDrop (tBM K "list" rAppend (tVar i) (tCons te tNil))) tz) es m oc := fun r e F G H σ D s q => by
  obtain ⟨hl, rfl⟩ := ite_some hy
  obtain ⟨o, ho, p, vs, eo, g, f, hp, rr, an⟩ := s.sl i _ hi
  subst eo
  refine ⟨.ref p, ho, .inl ⟨rfl, vs, .inl (.inl hp)⟩, ?_⟩
  refine h F G H σ s _ fun v G1 H1 s1 g1 r1 => ?_
  obtain ⟨o, ho', p', vs', eo, g', f', hp', rr', an'⟩ := s1.sl i _ hi
  subst eo
  rw [ho] at ho'
  cases ho'
  have hlen := rr'.length
  rw [List.length_map] at hlen
  have sz : (10000000 : Nat) < sizeLine := by decide
  refine ⟨p, vs', v, rfl, rfl, hp', by omega, ?_⟩
  refine k r e F G1 _ σ D (he ▸ s1.write hi rfl rfl ho ⟨p, vs' ++ [v], rfl, g', f', upd_same, ?_, an'⟩ g' f') (q.up g1)
  rw [List.map_append]
  exact rr'.append (.cons r1 .nil)
def setC {α : Type} (xs : List α) (i : Int) (x : α) : Option (List α) := (ixN xs.length i).map fun j => xs.set j x
theorem map_set {α β : Type} (f : α → β) : ∀ (xs : List α) (j : Nat) (x : α), (xs.set j x).map f = (xs.map f).set j (f x)
  | [], _, _ => rfl
  | _ :: _, 0, _ => rfl
  | y :: xs, j + 1, x => congrArg (f y :: ·) (map_set f xs j x)
theorem sm_setL {α : Type} {em : α → Dt} {xs ys : List α} {x : α} {i : Nat} {n : Int} {a : Option Addr} (hi : es[i]? = some (.own a (xs.map em))) (h : Ev K te es (em x)) (hn : Ev K tb es (.int n)) (hy : setC xs n x = some ys) (he : es.set i (.own a (ys.map em)) = es') (k : SM K tz es' m oc) :
    SM K (tSeq (tAsg te (gSub (tVar i) tb rSetL)) tz) es m oc := fun r e F G H σ D s q => by
  refine h F G H σ s _ fun v G1 H1 s1 g1 r1 => ?_
  obtain ⟨o, ho, p, vs, eo, g, f, hp, rr, an⟩ := s1.sl i _ hi
  subst eo
  refine ⟨.ref p, ho, ?_⟩
  refine hn F G1 H1 σ s1 _ fun y G2 H2 s2 g2 r2 => ?_
  cases r2
  obtain ⟨o, ho', p', vs', eo, g', f', hp', rr', an'⟩ := s2.sl i _ hi
  subst eo
  rw [ho] at ho'
  cases ho'
  have hlen := rr'.length
  rw [List.length_map] at hlen
  unfold setC at hy
  cases hj : ixN xs.length n with
  | none => rw [hj] at hy; cases hy
  | some j =>
    rw [hj] at hy
    have hy' : xs.set j x = ys := Option.some.inj hy
    subst hy'
    refine ⟨p, vs', n, j, rfl, rfl, hp', by rw [hlen]; exact hj, ?_⟩
    refine k r e F G2 _ σ D (he ▸ s2.write hi rfl rfl ho ⟨p, vs'.set j v, rfl, g', f', upd_same, ?_, an'⟩ g' f') (q.up (g1.trans g2))
    rw [map_set]
    exact Reps.set (r1.mono g2) j rr'
def insC {α : Type} (xs : List α) (i : Int) (x : α) : Option (List α) := if xs.length < 10000000 ∧ 0 ≤ i ∧ i < 2 ^ 62 then some (xs.take i.toNat ++ [x] ++ xs.drop i.toNat) else none
def rInsert : V → List V → Hp → VK → Prop := fun x vs H Q => ∃ (l : Addr) (xs : List V) (i : Int) (y : V), x = .ref l ∧ vs = [.int i, y] ∧ H l = some (.lst xs) ∧ xs.length < sizeLine ∧ 0 ≤ i ∧ i < 2 ^ 63 ∧
    Q .non (upd H l (.lst (xs.take i.toNat ++ [y] ++ xs.drop i.toNat)))
theorem mt_ins {X : Cx} : MtR X "list.insert" rInsert := mt_insert
theorem sm_ins {α : Type} {em : α → Dt} {xs ys : List α} {x : α} {i : Nat} {n : Int} {a : Option Addr} (hi : es[i]? = some (.own a (xs.map em))) (hn : Ev K tb es (.int n)) (h : Ev K te es (em x)) (hy : insC xs n x = some ys) (he : es.set i (.own a (ys.map em)) = es') (k : SM K tz es' m oc) :
    SM K (tSeq (tDrop (tBM K "list" rInsert (tVar i) (tCons tb (tCons te tNil)))) tz) es m oc := fun r e F G H σ D s q => by
  obtain ⟨⟨hl, h0, h1⟩, rfl⟩ := ite_some hy
  obtain ⟨o, ho, p, vs, eo, g, f, hp, rr, an⟩ := s.sl i _ hi
  subst eo
  refine ⟨.ref p, ho, .inl ⟨rfl, vs, .inl (.inl hp)⟩, ?_⟩
  refine hn F G H σ s _ fun y G1 H1 s1 g1 r1 => ?_
  cases r1
  refine h F G1 H1 σ s1 _ fun v G2 H2 s2 g2 r2 => ?_
  obtain ⟨o, ho', p', vs', eo, g', f', hp', rr', an'⟩ := s2.sl i _ hi
  subst eo
  rw [ho] at ho'
  cases ho'
  have hlen := rr'.length
  rw [List.length_map] at hlen
  have sz : (10000000 : Nat) < sizeLine := by decide
  refine ⟨p, vs', n, v, rfl, rfl, hp', by omega, h0, by omega, ?_⟩
  refine k r e F G2 _ σ D (he ▸ s2.write hi rfl rfl ho ⟨p, vs'.take n.toNat ++ [v] ++ vs'.drop n.toNat, rfl, g', f', upd_same, ?_, an'⟩ g' f') (q.up (g1.trans g2))
  rw [List.map_append, List.map_append, List.map_take, List.map_drop]
  exact ((rr'.take _).append (.cons r2 .nil)).append (rr'.drop _)
/-- the list is done -/
theorem sm_frz {i : Nat} {a : Option Addr} (hi : es[i]? = some (.own a ds)) (he : es.set i (.d (.lst ds)) = es') (k : SM K t es' m oc) : SM K t es m oc := fun r e F G H σ D s q => by
  obtain ⟨o, ho, p, vs, eo, g, f, hp, rr, an⟩ := s.sl i _ hi
  subst eo
  exact k r e F _ H σ D (he ▸ s.freeze hi rfl ho hp g f (.lst (.inl (.inl upd_same)) (rr.mono (same_upd g)))) (q.up (same_upd g))
theorem sm_frzO {i : Nat} {a : Option Addr} {C : Addr} {fs : List (Str × Dt)} (hi : es[i]? = some (.obo a C fs)) (he : es.set i (.d (.obj C fs)) = es') (k : SM K t es' m oc) : SM K t es m oc := fun r e F G H σ D s q => by
  obtain ⟨o, ho, p, dx, vs, eo, g, f, hp, rr, an⟩ := s.sl i _ hi
  subst eo
  exact k r e F _ H σ D (he ▸ s.freeze hi rfl ho hp g f (.obj upd_same (rr.mono (same_upd g)))) (q.up (same_upd g))
theorem repF_put {G : Hp} {f : Str} {v : V} {d : Dt} (h : Rep K G v d) : ∀ {vs : List (Str × V)} {ds : List (Str × Dt)}, RepF K G vs ds → RepF K G (putF f v vs) (putD f d ds)
  | _, _, .nil => .cons h .nil
  | _, _, .cons (f := g) r rr => by
    unfold putF putD
    by_cases e : g = f
    · rw [if_pos e, if_pos e]
      exact .cons h rr
    · rw [if_neg e, if_neg e]
      exact .cons r (repF_put h rr)
theorem RepF.length {G : Hp} : ∀ {vs : List (Str × V)} {ds : List (Str × Dt)}, RepF K G vs ds → vs.length = ds.length
  | _, _, .nil => rfl
  | _, _, .cons _ r => congrArg (· + 1) (RepF.length r)
/-- self.f = e -/
theorem sm_fld {i : Nat} {a : Option Addr} {C : Addr} {fs : List (Str × Dt)} {f : Str} (hi : es[i]? = some (.obo a C fs)) (h : Ev K te es d) (hc : Cls K C) (hn : NoAttr K C f) (hl : fs.length < 900) (he : es.set i (.obo a C (putD f d fs)) = es') (k : SM K tz es' m oc) :
    SM K (tSeq (sFld K (tVar i) te f) tz) es m oc := fun r e F G H σ D s q => by
  refine h F G H σ s _ fun v G1 H1 s1 g1 r1 => ?_
  obtain ⟨o, ho, p, dx, vs, eo, g, ff, hp, rr, an⟩ := s1.sl i _ hi
  subst eo
  refine ⟨.ref p, ho, p, C, dx, vs, rfl, hp, hc, hn, by rw [rr.length]; omega, ?_⟩
  exact k r e F G1 _ σ D (he ▸ s1.write hi rfl rfl ho ⟨p, dx, putF f v vs, rfl, g, ff, upd_same, repF_put r1 rr, an⟩ g ff) (q.up g1)
end

/-! ### defs: what they promise -/
/-- R: the slots of the arguments, what is handed back, the slots behind -/
def FSpec (K : PySem.W.Frag) (R : List Sl → Dt → List Sl → Prop) : Sp := fun vs H Q _ => ∃ F G ss d ss', Stt K F G H (vs.map some) ss ∧ R ss d ss' ∧
  ∀ v G' H', Stt K F G' H' (vs.map some) ss' → Same G G' → Rep K G' v d → Q v H'
/-- all arguments are data -/
def RD (P : List Dt → Dt → Prop) : List Sl → Dt → List Sl → Prop := fun ss d ss' => ∃ ds, ss = ds.map .d ∧ ss' = ss ∧ P ds d
/-- an __init__: the first is made -/
def RI (C : Addr) (P : List Dt → List (Str × Dt) → Prop) : List Sl → Dt → List Sl → Prop := fun ss d ss' => ∃ p ds fs, ss = .obo (some p) C [] :: ds.map .d ∧ d = .non ∧ ss' = .obo (some p) C fs :: ds.map .d ∧ P ds fs
section
variable {K : PySem.W.Frag} {F G H F' G' H' : Hp} {σ : L2.St} {es : List Sl}
theorem stt_data {vs : List V} {ds : List Dt} (f : Same F H) (g : Same G H) (dj : ∀ a o, F a = some o → G a = none) (r : Reps K G vs ds) : Stt K F G H (vs.map some) (ds.map .d) where
  f := f
  g := g
  dj := dj
  len := by rw [List.length_map, List.length_map]; exact r.length
  sl := fun i s e => by
    rw [List.getElem?_map] at e
    cases q : ds[i]? with
    | none => rw [q] at e; cases e
    | some d =>
      rw [q] at e
      cases e
      obtain ⟨v, hv, rv⟩ := r.get q
      exact ⟨some v, by rw [List.getElem?_map, hv]; rfl, v, rfl, rv⟩
  ow := fun i j s t _ ei _ hi _ => by
    rw [List.getElem?_map] at ei
    cases q : ds[i]? with
    | none => rw [q] at ei; cases ei
    | some d => rw [q] at ei; cases ei; cases hi
theorem data_of {vs : List V} {ds : List Dt} : ∀ {vs : List V} {ds : List Dt}, (vs.map some).length = (ds.map Sl.d).length → (∀ (i : Nat) s, (ds.map Sl.d)[i]? = some s → ∃ o, (vs.map some)[i]? = some o ∧ SlOk K F G H o s) → Reps K G vs ds
  | [], [], _, _ => .nil
  | v :: vs, d :: ds, h, hh => by
    obtain ⟨o, ho, x, e, r⟩ := hh 0 _ rfl
    cases ho
    cases e
    exact .cons r (data_of (vs := vs) (ds := ds) (by simpa using h) fun i s e => hh (i + 1) s e)
  | [], _ :: _, h, _ => by simp at h
  | _ :: _, [], h, _ => by simp at h
theorem Stt.rem (s : Stt K F G H σ es) : Same (rem G H) H ∧ ∀ a o, DL.rem G H a = some o → G a = none := ⟨fun a o e => (rem_some e).1, fun a o e => (rem_some e).2⟩
variable {ta : TA} {ds dds : List Dt} {d : Dt} {E : XK} {dvs : List V}
/-- f(..), all arguments data, dvs the defaults -/
theorem ev_callD {P : List Dt → Dt → Prop} (ha : EvA K ta es ds) (hd : ∀ G, Reps K G dvs dds) (hP : P (ds ++ dds) d) : Ev K (tCall (FSpec K (RD P)) dvs E ta) es d := fun F G H σ s Q q =>
  ha F G H σ s _ fun vs G1 H1 s1 g1 r1 => ⟨rem G1 H1, G1, (ds ++ dds).map .d, d, (ds ++ dds).map .d, stt_data s1.rem.1 s1.g s1.rem.2 (r1.append (hd G1)), ⟨_, rfl, rfl, hP⟩, fun v G2 H2 s2 g2 r2 =>
    q v G2 H2 (s1.after s2.f s2.g s2.dj g2) (g1.trans g2) r2⟩
theorem ev_call {P : List Dt → Dt → Prop} (ha : EvA K ta es ds) (hP : P ds d) : Ev K (tCall (FSpec K (RD P)) [] E ta) es d := ev_callD (dds := []) ha (fun _ => .nil) (by rw [List.append_nil]; exact hP)
/-- o.m(..) -/
theorem ev_methD {P : List Dt → Dt → Prop} {to : TE} {C : Addr} {fs : List (Str × Dt)} {m : Str} (ho : Ev K to es (.obj C fs)) (hm : fs.lookup m = none) (ha : EvA K ta es ds) (hd : ∀ G, Reps K G dvs dds) (hP : P (.obj C fs :: (ds ++ dds)) d) : Ev K (tMeth C m (FSpec K (RD P)) dvs E to ta) es d := fun F G H σ s Q q =>
  ho F G H σ s _ fun x G0 H0 s0 g0 r0 => by
    have r0' := r0
    cases r0 with
    | obj h rf =>
      refine ⟨_, _, _, rfl, s0.g _ _ h, rf.lookup_none hm, ?_⟩
      exact ha F G0 H0 σ s0 _ fun vs G1 H1 s1 g1 r1 => ⟨rem G1 H1, G1, (Dt.obj C fs :: (ds ++ dds)).map .d, d, (Dt.obj C fs :: (ds ++ dds)).map .d, stt_data s1.rem.1 s1.g s1.rem.2 (.cons (r0'.mono g1) (r1.append (hd G1))), ⟨_, rfl, rfl, hP⟩, fun v G2 H2 s2 g2 r2 =>
        q v G2 H2 (s1.after s2.f s2.g s2.dj g2) (g0.trans (g1.trans g2)) r2⟩
theorem ev_meth {P : List Dt → Dt → Prop} {to : TE} {C : Addr} {fs : List (Str × Dt)} {m : Str} (ho : Ev K to es (.obj C fs)) (hm : fs.lookup m = none) (ha : EvA K ta es ds) (hP : P (.obj C fs :: ds) d) : Ev K (tMeth C m (FSpec K (RD P)) [] E to ta) es d :=
  ev_methD (dds := []) ho hm ha (fun _ => .nil) (by rw [List.append_nil]; exact hP)
/-- C(..) -/
theorem ev_makeD {P : List Dt → List (Str × Dt) → Prop} {C : Addr} {fs : List (Str × Dt)} (ha : EvA K ta es ds) (hd : ∀ G, Reps K G dvs dds) (hP : P (ds ++ dds) fs) : Ev K (tMake C (FSpec K (RI C P)) dvs E ta) es (.obj C fs) := fun F G H σ s Q q =>
  ha F G H σ s _ fun vs G1 H1 s1 g1 r1 x dx hx hdx ne => by
    have hx1 : upd H1 dx (.own x) x = none := by
      rw [upd_ne (fun z => ne z.symm)]
      exact hx
    have s2 : Stt K F G1 (upd (upd H1 dx (.own x)) x (.ins C dx [])) σ es := (s1.lay hdx).lay hx1
    have gx : G1 x = none := s1.gnone hx
    have rx : ∀ a o, a ≠ x → rem G1 (upd (upd H1 dx (.own x)) x (.ins C dx [])) a = some o → rem G1 (upd (upd H1 dx (.own x)) x (.ins C dx [])) a = some o := fun _ _ _ e => e
    -- what is another's: all but the known and the new one
    refine ⟨fun a => if a = x then none else rem G1 (upd (upd H1 dx (.own x)) x (.ins C dx [])) a, G1, .obo (some x) C [] :: (ds ++ dds).map .d, .non, .obo (some x) C fs :: (ds ++ dds).map .d, ?_, ⟨x, _, fs, rfl, rfl, rfl, hP⟩, ?_⟩
    · have base : Stt K (fun a => if a = x then none else rem G1 (upd (upd H1 dx (.own x)) x (.ins C dx [])) a) G1 (upd (upd H1 dx (.own x)) x (.ins C dx [])) ((vs ++ dvs).map some) ((ds ++ dds).map .d) := by
        refine stt_data (fun a o e => ?_) s2.g (fun a o e => ?_) (r1.append (hd G1))
        · by_cases q : a = x
          · rw [if_pos q] at e; cases e
          · rw [if_neg q] at e; exact (rem_some e).1
        · by_cases q : a = x
          · rw [if_pos q] at e; cases e
          · rw [if_neg q] at e; exact (rem_some e).2
      refine ⟨base.f, base.g, base.dj, by rw [List.map_cons, List.length_cons, List.length_cons, base.len], fun i t e => ?_, fun i j t u nij ei ej hi hj => ?_⟩
      · cases i with
        | zero =>
          cases e
          exact ⟨_, rfl, x, dx, [], rfl, gx, if_pos rfl, upd_same, .nil, fun q e => (Option.some.inj e).symm⟩
        | succ i => exact base.sl i t e
      · cases i with
        | zero =>
          cases j with
          | zero => exact absurd rfl nij
          | succ j =>
            have ej' : ((ds ++ dds).map Sl.d)[j]? = some u := ej
            rw [List.getElem?_map] at ej'
            cases q : (ds ++ dds)[j]? with
            | none => rw [q] at ej'; cases ej'
            | some d => rw [q] at ej'; cases ej'; cases hj
        | succ i =>
          have ei' : ((ds ++ dds).map Sl.d)[i]? = some t := ei
          rw [List.getElem?_map] at ei'
          cases q : (ds ++ dds)[i]? with
          | none => rw [q] at ei'; cases ei'
          | some d => rw [q] at ei'; cases ei'; cases hi
    · intro v G2 H2 s3 g3 r3
      cases r3
      obtain ⟨o, ho, p, dx', fv, eo, gp, fp, hp, rf, an⟩ := s3.sl 0 _ rfl
      cases ho
      cases eo
      refine ⟨rfl, ?_⟩
      have gx2 : Same G2 (upd G2 x (.ins C dx' fv)) := same_upd gp
      have s4 : Stt K F (upd G2 x (.ins C dx' fv)) H2 σ es := by
        have keep : ∀ a o, H1 a = some o → G1 a = none → H2 a = some o ∧ G2 a = none := fun a o e g => by
          have ax : a ≠ x := fun z => by subst z; rw [hx] at e; cases e
          have adx : a ≠ dx := fun z => by subst z; rw [hdx] at e; cases e
          have fa : (if a = x then none else rem G1 (upd (upd H1 dx (.own x)) x (.ins C dx [])) a) = some o := by
            rw [if_neg ax, rem_of g, upd_ne ax, upd_ne adx]
            exact e
          exact ⟨s3.f a o fa, s3.dj a o fa⟩
        have nex : ∀ a o, H1 a = some o → a ≠ x := fun a o e z => by subst z; rw [hx] at e; cases e
        refine s1.after (H' := H2) (G' := upd G2 x (.ins C dx' fv)) (fun a o e => (keep a o (rem_some e).1 (rem_some e).2).1) (fun a o e => ?_) (fun a o e => ?_) (g3.trans gx2)
        · by_cases q : a = x
          · subst q
            rw [upd_same] at e
            cases e
            exact hp
          · rw [upd_ne q] at e
            exact s3.g a o e
        · rw [upd_ne (nex a o (rem_some e).1)]
          exact (keep a o (rem_some e).1 (rem_some e).2).2
      exact q _ _ H2 s4 (g1.trans (g3.trans gx2)) (.obj upd_same (rf.mono gx2))
theorem ev_make {P : List Dt → List (Str × Dt) → Prop} {C : Addr} {fs : List (Str × Dt)} (ha : EvA K ta es ds) (hP : P ds fs) : Ev K (tMake C (FSpec K (RI C P)) [] E ta) es (.obj C fs) := ev_makeD (dds := []) ha (fun _ => .nil) (by rw [List.append_nil]; exact hP)
end

/-! ### a def by its body -/
section
variable {P : Program} {w : World} {K : PySem.W.Frag} {mg : Str → Option Value} {base : Heap}
theorem stt_start {F G H : Hp} {vs : List V} {ss : List Sl} {N : List Str} {n : Nat} (s : Stt K F G H (vs.map some) ss) (hn : n = N.length - ss.length) : Stt K F G H (L2.start N vs) (ss ++ List.replicate n .un) where
  f := s.f
  g := s.g
  dj := s.dj
  len := by
    have := s.len
    rw [List.length_map] at this
    unfold L2.start
    rw [List.length_append, List.length_append, List.length_map, List.length_replicate, List.length_replicate, this, hn]
  sl := fun i t e => by
    have hl := s.len
    rw [List.length_map] at hl
    unfold L2.start
    by_cases hi : i < ss.length
    · rw [List.getElem?_append_left hi] at e
      rw [List.getElem?_append_left (by rw [List.length_map, hl]; exact hi)]
      exact s.sl i t e
    · rw [List.getElem?_append_right (by omega)] at e
      have hx := (List.getElem?_eq_some_iff.mp e).1
      rw [List.length_replicate] at hx
      rw [List.getElem?_replicate, if_pos hx] at e
      cases e
      rw [List.getElem?_append_right (by rw [List.length_map]; omega), List.getElem?_replicate, List.length_map, if_pos (by omega)]
      exact ⟨none, rfl, trivial⟩
  ow := fun i j t u nij ei ej hi hj => by
    have hl := s.len
    rw [List.length_map] at hl
    have low : ∀ (k : Nat) z, (ss ++ List.replicate n Sl.un)[k]? = some z → z.isOwn = true → k < ss.length ∧ ss[k]? = some z := fun k z e h => by
      by_cases hk : k < ss.length
      · rw [List.getElem?_append_left hk] at e
        exact ⟨hk, e⟩
      · rw [List.getElem?_append_right (by omega), List.getElem?_replicate] at e
        split at e
        · cases e; cases h
        · cases e
    obtain ⟨h1, e1⟩ := low i t ei hi
    obtain ⟨h2, e2⟩ := low j u ej hj
    unfold L2.start
    rw [List.getElem?_append_left (by rw [List.length_map, hl]; exact h1), List.getElem?_append_left (by rw [List.length_map, hl]; exact h2)]
    exact s.ow i j t u nij e1 e2 hi hj
/-- what a body comes to: a value handed back, or its end -/
def Ends2 (d : Dt) (es : List Sl) (o : Res) : Prop := o = .rt d es ∨ (o = .nx es ∧ d = .non)
theorem good_end {F G : Hp} {d : Dt} {es : List Sl} {o : Res} {Q : VK} (h : Ends2 d es o) (q : ∀ v G' H' σ', Stt K F G' H' σ' es → Same G G' → Rep K G' v d → Q v H') : Good K F G { nx := fun _ H' => Q .non H', rt := Q } o := by
  rcases h with rfl | ⟨rfl, rfl⟩
  · exact q
  · exact fun G' H' σ' s g => q .non G' H' σ' s g .non
/-- THE RULE: a def whose arguments are all data -/
theorem fn_D {x qual : Str} {st : Stmt} {f : Addr} {fd : FuncData} {N ps : List Str} {k : Nat} {R : List Dt → Dt → Prop} (F : Fun K x qual st f fd) (S : FnScope N ps (defScope st)) (hl : ∀ ds d, R ds d → ds.length = ps.length)
    (body : ∀ (cdv : Value) (A : Around) (outer : List Env) (s : Shared) (H : Hp) (E : XK), Room k (A.deeper (PyProof.Rows.envOfC qual (defScope st) s.heap.objs.size f cdv)) →
      ∃ t, PSs (cxOf CX0 P w K mg base N qual (defScope st) f cdv A outer s H E).nox (defBody st) t ∧ ∀ ds d, R ds d → ∃ o es, SEv K t (ds.map .d ++ List.replicate (N.length - ps.length) .un) o ∧ Ends2 d es o) :
    FnOk P w K mg base CX0 (k + 1) f fd ps (FSpec K (RD R)) := by
  refine F.ok S (fun vs H Q E h => ?_) (fun cdv A outer s H vs Q E hr h => ?_)
  · obtain ⟨F, G, ss, d, ss', s, ⟨ds, rfl, _, hR⟩, _⟩ := h
    have := s.len
    rw [List.length_map, List.length_map, hl ds d hR] at this
    exact this
  · obtain ⟨t, ht, hb⟩ := body cdv A outer s H E hr
    refine ⟨t, ht, ?_⟩
    obtain ⟨F1, G, ss, d, ss', st1, ⟨ds, rfl, rfl, hR⟩, q⟩ := h
    obtain ⟨o, es, hs, he⟩ := hb ds d hR
    refine hs F1 G H _ _ (stt_start st1 (by rw [List.length_map, hl ds d hR])) (good_end he fun v G' H' σ' s' g r => ?_)
    have rs : Reps K G vs ds := data_of (vs := vs) (ds := ds) (K := K) (F := F1) (G := G) (H := H) (by have := st1.len; simpa using this) st1.sl
    exact q v G' H' (stt_data s'.f s'.g s'.dj (rs.mono g)) g r
/-- THE RULE: an __init__ -/
theorem fn_I {x qual : Str} {st : Stmt} {f : Addr} {fd : FuncData} {N ps : List Str} {k : Nat} {C : Addr} {R : List Dt → List (Str × Dt) → Prop} (F : Fun K x qual st f fd) (S : FnScope N ps (defScope st)) (hl : ∀ ds d, R ds d → ds.length + 1 = ps.length)
    (body : ∀ (cdv : Value) (A : Around) (outer : List Env) (s : Shared) (H : Hp) (E : XK), Room k (A.deeper (PyProof.Rows.envOfC qual (defScope st) s.heap.objs.size f cdv)) →
      ∃ t, PSs (cxOf CX0 P w K mg base N qual (defScope st) f cdv A outer s H E).nox (defBody st) t ∧ ∀ p ds fs, R ds fs → ∃ o es, SEv K t (.obo (some p) C [] :: ds.map .d ++ List.replicate (N.length - ps.length) .un) o ∧ Ends2 .non (.obo (some p) C fs :: es) o) :
    FnOk P w K mg base CX0 (k + 1) f fd ps (FSpec K (RI C R)) := by
  refine F.ok S (fun vs H Q E h => ?_) (fun cdv A outer s H vs Q E hr h => ?_)
  · obtain ⟨F, G, ss, d, ss', s, ⟨p, ds, fs, rfl, _, _, hR⟩, _⟩ := h
    have := s.len
    rw [List.length_map, List.length_cons, List.length_map, hl ds fs hR] at this
    exact this
  · obtain ⟨t, ht, hb⟩ := body cdv A outer s H E hr
    refine ⟨t, ht, ?_⟩
    obtain ⟨F1, G, ss, d, ss', st1, ⟨p, ds, fs, rfl, rfl, rfl, hR⟩, q⟩ := h
    obtain ⟨o, es, hs, he⟩ := hb p ds fs hR
    refine hs F1 G H _ _ (stt_start st1 (by rw [List.length_cons, List.length_map, hl ds fs hR])) (good_end he fun v G' H' σ' s' g r => ?_)
    cases vs with
    | nil =>
      have := st1.len
      simp at this
    | cons v0 vs =>
      obtain ⟨o0, ho0, p0, dx0, fv0, e0, g0, f0, h0, r0, a0⟩ := st1.sl 0 _ rfl
      cases ho0
      cases e0
      obtain rfl := a0 p rfl
      obtain ⟨o1, ho1, p1, dx1, fv1, e1, g1, f1, h1, r1, a1⟩ := s'.sl 0 _ rfl
      subst e1
      obtain rfl := a1 _ rfl
      have rs : Reps K G vs ds := data_of (vs := vs) (ds := ds) (K := K) (F := F1) (G := G) (H := H) (by have := st1.len; simpa using this) fun i t e => st1.sl (i + 1) t e
      have base := stt_data s'.f s'.g s'.dj (rs.mono g)
      refine q v G' H' ⟨base.f, base.g, base.dj, by rw [List.map_cons, List.length_cons, List.length_cons, base.len], fun i t e => ?_, fun i j t u nij ei ej hi hj => ?_⟩ g r
      · cases i with
        | zero =>
          cases e
          exact ⟨_, rfl, p, dx1, fv1, rfl, g1, f1, h1, r1, a1⟩
        | succ i => exact base.sl i t e
      · have no : ∀ (k : Nat) z, ((ds.map Sl.d))[k]? = some z → z.isOwn = true → False := fun k z e h => by
          rw [List.getElem?_map] at e
          cases q : ds[k]? with
          | none => rw [q] at e; cases e
          | some d => rw [q] at e; cases e; cases h
        cases i with
        | zero =>
          cases j with
          | zero => exact absurd rfl nij
          | succ j => exact (no j u ej hj).elim
        | succ i => exact (no i t ei hi).elim
end
end DL

namespace DL
open PySem L2

/-! ### embeddings -/
abbrev dT1 {α : Type} (e1 : α → Dt) (x : α) : Dt := .tup [e1 x]
abbrev dT2 {α β : Type} (e1 : α → Dt) (e2 : β → Dt) (x : α × β) : Dt := .tup [e1 x.1, e2 x.2]
abbrev dT3 {α β γ : Type} (e1 : α → Dt) (e2 : β → Dt) (e3 : γ → Dt) (x : α × β × γ) : Dt := .tup [e1 x.1, e2 x.2.1, e3 x.2.2]
abbrev dT4 {α β γ δ : Type} (e1 : α → Dt) (e2 : β → Dt) (e3 : γ → Dt) (e4 : δ → Dt) (x : α × β × γ × δ) : Dt := .tup [e1 x.1, e2 x.2.1, e3 x.2.2.1, e4 x.2.2.2]
abbrev dT5 {α β γ δ ε : Type} (e1 : α → Dt) (e2 : β → Dt) (e3 : γ → Dt) (e4 : δ → Dt) (e5 : ε → Dt) (x : α × β × γ × δ × ε) : Dt := .tup [e1 x.1, e2 x.2.1, e3 x.2.2.1, e4 x.2.2.2.1, e5 x.2.2.2.2]
abbrev dL {α : Type} (e : α → Dt) (xs : List α) : Dt := .lst (xs.map e)
abbrev dV {α : Type} (e : α → Dt) (xs : List α) : Dt := .tup (xs.map e)
abbrev dN (_ : Unit) : Dt := .non
def dO {α : Type} (e : α → Dt) : Option α → Dt
  | none => .non
  | some x => e x

/-! ### built-ins -/
def rAbs : List V → Hp → VK → Prop := fun xs H Q => ∃ i, xs = [.int i] ∧ Q (.int (if i < 0 then -i else i)) H
def rMax2 : List V → Hp → VK → Prop := fun xs H Q => ∃ i j, xs = [.int i, .int j] ∧ Q (.int (if j > i then j else i)) H
def rMin2 : List V → Hp → VK → Prop := fun xs H Q => ∃ i j, xs = [.int i, .int j] ∧ Q (.int (if j < i then j else i)) H
def rInt : List V → Hp → VK → Prop := fun xs H Q => (∃ i, xs = [.int i] ∧ Q (.int i) H) ∨ ∃ k, xs = [.bl k] ∧ Q (.int (if k then 1 else 0)) H
def rLenS (K : PySem.W.Frag) : List V → Hp → VK → Prop := fun xs H Q => ∃ p ys, xs = [.ref p] ∧ (SqL K H p ys ∨ SqT K H p ys) ∧ Q (.int ys.length) H
def rListS (K : PySem.W.Frag) : List V → Hp → VK → Prop := fun xs H Q => ∃ p ys, xs = [.ref p] ∧ (SqL K H p ys ∨ SqT K H p ys) ∧ ∀ l, H l = none → Q (.ref l) (upd H l (.lst ys))
def rTupS (K : PySem.W.Frag) : List V → Hp → VK → Prop := fun xs H Q => ∃ p ys, xs = [.ref p] ∧ ((SqL K H p ys ∧ ∀ l, H l = none → Q (.ref l) (upd H l (.tup ys))) ∨ (SqT K H p ys ∧ Q (.ref p) H))
def rLenT : List V → Hp → VK → Prop := fun xs H Q => ∃ z, xs = [.str z] ∧ z.length ≤ sizeLine ∧ Q (.int z.length) H
def rIsqrt : List V → Hp → VK → Prop := fun xs H Q => ∃ i : Int, xs = [.int i] ∧ 0 ≤ i ∧ i.toNat.log2 ≤ 13000 ∧ Q (.int ((Float64.isqrt i.toNat : Nat) : Int)) H
section
variable {X : Cx}
theorem cr_abs : CallR X (.builtin "abs") rAbs := call_abs
theorem cr_max2 (hc : X.calm = true) : CallR X (.builtin "max") rMax2 := call_max2 hc
theorem cr_min2 (hc : X.calm = true) : CallR X (.builtin "min") rMin2 := call_min2 hc
theorem cr_max3 (hc : X.calm = true) : CallR X (.builtin "max") (rNuC3 nuMax3) := call_max3Nu hc
theorem cr_min3 (hc : X.calm = true) : CallR X (.builtin "min") (rNuC3 nuMin3) := call_min3Nu hc
theorem cr_int : CallR X (.type "int") rInt := call_int1
theorem cr_lenS : CallR X (.builtin "len") (rLenS X.K) := call_len_seq
theorem cr_lenT : CallR X (.builtin "len") rLenT := call_len_str
theorem cr_listS : CallR X (.type "list") (rListS X.K) := call_list_of
theorem cr_tupS : CallR X (.type "tuple") (rTupS X.K) := call_tuple_of
theorem cr_isqrt : CallR X (.builtin "math.isqrt") rIsqrt := by
  intro pins s σ H vs us Q I r h
  obtain ⟨a, rfl, h0, h1, q⟩ := h
  cases r with
  | cons r1 r2 =>
    cases r2
    obtain ⟨t, rfl⟩ := r1
    exact PySem.call_function_meets PySem.W.MGF.kind_isqrt PySem.W.MGF.plain_isqrt PySem.W.MGF.entry_isqrt (PySem.W.MGF.args_isqrt _) (PySem.W.mg_run_isqrt a t (by omega) (by omega) (by omega)).meets ⟨.int _, H, I.tok _, ⟨_, rfl⟩, q⟩
end
section
variable {K : PySem.W.Frag} {es : List Sl} {ta tb te : TE} {d : Dt}
theorem ld_1 {r : List V → Hp → VK → Prop} {a c : Dt} (ha : Ev K ta es a) (hr : ∀ F G H σ x, Stt K F G H σ es → Rep K G x a → ∀ Q : VK, (∀ v G' H', Stt K F G' H' σ es → Same G G' → Rep K G' v c → Q v H') → r [x] H Q) : Ev K (tCB r (tCons ta tNil)) es c := fun F G H σ s Q q =>
  ha F G H σ s _ fun x G1 H1 s1 g1 r1 => hr F G1 H1 σ x s1 r1 Q fun v G2 H2 s2 g2 r2 => q v G2 H2 s2 (g1.trans g2) r2
theorem ld_2 {r : List V → Hp → VK → Prop} {a b c : Dt} (ha : Ev K ta es a) (hb : Ev K tb es b) (hr : ∀ F G H σ x y, Stt K F G H σ es → Rep K G x a → Rep K G y b → ∀ Q : VK, (∀ v G' H', Stt K F G' H' σ es → Same G G' → Rep K G' v c → Q v H') → r [x, y] H Q) : Ev K (tCB r (tCons ta (tCons tb tNil))) es c := fun F G H σ s Q q =>
  ha F G H σ s _ fun x G1 H1 s1 g1 r1 => hb F G1 H1 σ s1 _ fun y G2 H2 s2 g2 r2 => hr F G2 H2 σ x y s2 (r1.mono g2) r2 Q fun v G3 H3 s3 g3 r3 => q v G3 H3 s3 (g1.trans (g2.trans g3)) r3
theorem ld_3 {r : List V → Hp → VK → Prop} {tc : TE} {a b e c : Dt} (ha : Ev K ta es a) (hb : Ev K tb es b) (he : Ev K tc es e) (hr : ∀ F G H σ x y z, Stt K F G H σ es → Rep K G x a → Rep K G y b → Rep K G z e → ∀ Q : VK, (∀ v G' H', Stt K F G' H' σ es → Same G G' → Rep K G' v c → Q v H') → r [x, y, z] H Q) : Ev K (tCB r (tCons ta (tCons tb (tCons tc tNil)))) es c := fun F G H σ s Q q =>
  ha F G H σ s _ fun x G1 H1 s1 g1 r1 => hb F G1 H1 σ s1 _ fun y G2 H2 s2 g2 r2 => he F G2 H2 σ s2 _ fun z G3 H3 s3 g3 r3 => hr F G3 H3 σ x y z s3 ((r1.mono g2).mono g3) (r2.mono g3) r3 Q fun v G4 H4 s4 g4 r4 => q v G4 H4 s4 (g1.trans (g2.trans (g3.trans g4))) r4
theorem ev_abs {i : Int} (ha : Ev K ta es (.int i)) : Ev K (tCB rAbs (tCons ta tNil)) es (.int (i.natAbs : Int)) := ld_1 ha fun F G H σ x s r Q q => by
  cases r
  refine ⟨i, rfl, ?_⟩
  have : (if i < 0 then -i else i) = (i.natAbs : Int) := by split <;> omega
  rw [this]
  exact q _ G H s (Same.refl _) (.int _)
theorem ev_max2 {i j : Int} (ha : Ev K ta es (.int i)) (hb : Ev K tb es (.int j)) : Ev K (tCB rMax2 (tCons ta (tCons tb tNil))) es (.int (max i j)) := ld_2 ha hb fun F G H σ x y s r r' Q q => by
  cases r
  cases r'
  refine ⟨i, j, rfl, ?_⟩
  have : (if j > i then j else i) = max i j := by split <;> omega
  rw [this]
  exact q _ G H s (Same.refl _) (.int _)
theorem ev_min2 {i j : Int} (ha : Ev K ta es (.int i)) (hb : Ev K tb es (.int j)) : Ev K (tCB rMin2 (tCons ta (tCons tb tNil))) es (.int (min i j)) := ld_2 ha hb fun F G H σ x y s r r' Q q => by
  cases r
  cases r'
  refine ⟨i, j, rfl, ?_⟩
  have : (if j < i then j else i) = min i j := by split <;> omega
  rw [this]
  exact q _ G H s (Same.refl _) (.int _)
theorem nu_max2 (i j : Int) : nuMax2 (.int i) (.int j) = some (.int (max i j)) := by
  show some (if decide (i < j) = true then V.int j else V.int i) = _
  by_cases h : i < j
  · rw [if_pos (decide_eq_true h)]
    congr 2
    omega
  · rw [if_neg (by rw [decide_eq_true_eq]; exact h)]
    congr 2
    omega
theorem nu_min2 (i j : Int) : nuMin2 (.int i) (.int j) = some (.int (min i j)) := by
  show some (if decide (j < i) = true then V.int j else V.int i) = _
  by_cases h : j < i
  · rw [if_pos (decide_eq_true h)]
    congr 2
    omega
  · rw [if_neg (by rw [decide_eq_true_eq]; exact h)]
    congr 2
    omega
theorem ev_max3 {tc : TE} {i j k : Int} (ha : Ev K ta es (.int i)) (hb : Ev K tb es (.int j)) (hc : Ev K tc es (.int k)) : Ev K (tCB (rNuC3 nuMax3) (tCons ta (tCons tb (tCons tc tNil)))) es (.int (max (max i j) k)) := ld_3 ha hb hc fun F G H σ x y z s r r' r'' Q q => by
  cases r
  cases r'
  cases r''
  refine ⟨_, _, _, .int (max (max i j) k), rfl, ?_, q _ G H s (Same.refl _) (.int _)⟩
  unfold nuMax3
  rw [nu_max2]
  exact nu_max2 _ _
theorem ev_min3 {tc : TE} {i j k : Int} (ha : Ev K ta es (.int i)) (hb : Ev K tb es (.int j)) (hc : Ev K tc es (.int k)) : Ev K (tCB (rNuC3 nuMin3) (tCons ta (tCons tb (tCons tc tNil)))) es (.int (min (min i j) k)) := ld_3 ha hb hc fun F G H σ x y z s r r' r'' Q q => by
  cases r
  cases r'
  cases r''
  refine ⟨_, _, _, .int (min (min i j) k), rfl, ?_, q _ G H s (Same.refl _) (.int _)⟩
  unfold nuMin3
  rw [nu_min2]
  exact nu_min2 _ _
theorem ev_intI {i : Int} (ha : Ev K ta es (.int i)) : Ev K (tCB rInt (tCons ta tNil)) es (.int i) := ld_1 ha fun F G H σ x s r Q q => by
  cases r
  exact .inl ⟨i, rfl, q _ G H s (Same.refl _) (.int _)⟩
def b2i (b : Bool) : Int := if b = true then 1 else 0
theorem ev_intB {b : Bool} (ha : Ev K ta es (.bl b)) : Ev K (tCB rInt (tCons ta tNil)) es (.int (b2i b)) := ld_1 ha fun F G H σ x s r Q q => by
  cases r
  exact .inr ⟨b, rfl, q _ G H s (Same.refl _) (.int _)⟩
theorem ev_lenL {ds : List Dt} (ha : Ev K ta es (.lst ds)) : Ev K (tCB (rLenS K) (tCons ta tNil)) es (.int (ds.length : Int)) := ld_1 ha fun F G H σ x s r Q q => by
  cases r with
  | lst h r => exact ⟨_, _, rfl, .inl (s.g.seq h), by rw [r.length]; exact q _ G H s (Same.refl _) (.int _)⟩
theorem ev_lenV {ds : List Dt} (ha : Ev K ta es (.tup ds)) : Ev K (tCB (rLenS K) (tCons ta tNil)) es (.int (ds.length : Int)) := ld_1 ha fun F G H σ x s r Q q => by
  cases r with
  | tup h r => exact ⟨_, _, rfl, .inr (sqT_mono s.g h), by rw [r.length]; exact q _ G H s (Same.refl _) (.int _)⟩
theorem ev_lenLm {α : Type} {em : α → Dt} {xs : List α} (ha : Ev K ta es (.lst (xs.map em))) : Ev K (tCB (rLenS K) (tCons ta tNil)) es (.int (xs.length : Int)) := ev_is (ev_lenL ha) (by rw [List.length_map])
theorem ev_lenVm {α : Type} {em : α → Dt} {xs : List α} (ha : Ev K ta es (.tup (xs.map em))) : Ev K (tCB (rLenS K) (tCons ta tNil)) es (.int (xs.length : Int)) := ev_is (ev_lenV ha) (by rw [List.length_map])
/-- len of the list one fills -/
theorem ev_lenO {α : Type} {em : α → Dt} {xs : List α} {i : Nat} {p : Option Addr} (h : es[i]? = some (.own p (xs.map em))) : Ev K (tCB (rLenS K) (tCons (tVar i) tNil)) es (.int (xs.length : Int)) := fun F G H σ s Q q => by
  obtain ⟨o, ho, p, vs, e, g, f, hp, r, _⟩ := s.sl i _ h
  subst e
  refine ⟨.ref p, ho, p, vs, rfl, .inl (.inl (.inl hp)), ?_⟩
  have := r.length
  rw [List.length_map] at this
  rw [this]
  exact q _ G H s (Same.refl _) (.int _)
def lenC (s : Str) : Option Int := if s.length ≤ 10000000 then some (s.length : Int) else none
theorem ev_lenS {s : Str} {n : Int} (ha : Ev K ta es (.str s)) (h : lenC s = some n) : Ev K (tCB rLenT (tCons ta tNil)) es (.int n) := ld_1 ha fun F G H σ x st r Q q => by
  obtain ⟨hl, rfl⟩ := ite_some h
  cases r
  have sz : (10000000 : Nat) < sizeLine := by decide
  exact ⟨s, rfl, by omega, q _ G H st (Same.refl _) (.int _)⟩
/-- list(x) -/
theorem el_listL {ds : List Dt} (ha : Ev K ta es (.lst ds)) : EvL K (tCB (rListS K) (tCons ta tNil)) es ds := fun F G H σ s Q q =>
  ha F G H σ s _ fun x G1 H1 s1 g1 r1 => by
    cases r1 with
    | lst h r => exact ⟨_, _, rfl, .inl (s1.g.seq h), fun l hl => q l _ G1 _ (s1.prot hl) (s1.fnone hl) g1 r⟩
theorem el_listV {ds : List Dt} (ha : Ev K ta es (.tup ds)) : EvL K (tCB (rListS K) (tCons ta tNil)) es ds := fun F G H σ s Q q =>
  ha F G H σ s _ fun x G1 H1 s1 g1 r1 => by
    cases r1 with
    | tup h r => exact ⟨_, _, rfl, .inr (sqT_mono s1.g h), fun l hl => q l _ G1 _ (s1.prot hl) (s1.fnone hl) g1 r⟩
/-- tuple(x) -/
theorem ev_tupL {ds : List Dt} (ha : Ev K ta es (.lst ds)) : Ev K (tCB (rTupS K) (tCons ta tNil)) es (.tup ds) := ld_1 ha fun F G H σ x s r Q q => by
  cases r with
  | lst h r => exact ⟨_, _, rfl, .inl ⟨s.g.seq h, fun l hl => q _ _ _ (s.new hl) (same_upd (s.gnone hl)) (.tup (.inl (.inl upd_same)) (r.mono (same_upd (s.gnone hl))))⟩⟩
theorem ev_tupV {ds : List Dt} (ha : Ev K ta es (.tup ds)) : Ev K (tCB (rTupS K) (tCons ta tNil)) es (.tup ds) := ld_1 ha fun F G H σ x s r Q q => by
  cases r with
  | tup h r => exact ⟨_, _, rfl, .inr ⟨sqT_mono s.g h, q _ G H s (Same.refl _) (.tup h r)⟩⟩
/-- tuple of the list one fills -/
theorem ev_tupO {ds : List Dt} {i : Nat} {p : Option Addr} (h : es[i]? = some (.own p ds)) : Ev K (tCB (rTupS K) (tCons (tVar i) tNil)) es (.tup ds) := fun F G H σ s Q q => by
  obtain ⟨o, ho, p, vs, e, g, f, hp, r, _⟩ := s.sl i _ h
  subst e
  exact ⟨.ref p, ho, p, vs, rfl, .inl ⟨.inl (.inl hp), fun l hl => q _ _ _ (s.new hl) (same_upd (s.gnone hl)) (.tup (.inl (.inl upd_same)) (r.mono (same_upd (s.gnone hl))))⟩⟩
def isqrtC (i : Int) : Option Int := if 0 ≤ i ∧ i.toNat.log2 ≤ 13000 then some ((Float64.isqrt i.toNat : Nat) : Int) else none
theorem ev_isqrt {i k : Int} (ha : Ev K ta es (.int i)) (h : isqrtC i = some k) : Ev K (tCB rIsqrt (tCons ta tNil)) es (.int k) := ld_1 ha fun F G H σ x s r Q q => by
  obtain ⟨⟨h0, h1⟩, rfl⟩ := ite_some h
  cases r
  exact ⟨i, rfl, h0, h1, q _ G H s (Same.refl _) (.int _)⟩
theorem ev_gcd {i j : Int} (ha : Ev K ta es (.int i)) (hb : Ev K tb es (.int j)) : Ev K (tCB rGcd (tCons ta (tCons tb tNil))) es (.int ((Nat.gcd i.natAbs j.natAbs : Nat) : Int)) := ld_2 ha hb fun F G H σ x y s r r' Q q => by
  cases r
  cases r'
  exact ⟨i, j, rfl, q _ G H s (Same.refl _) (.int _)⟩
theorem ev_bits {i : Int} (ha : Ev K ta es (.int i)) : Ev K (tBits ta) es (.int (Builtin.Int.intBits i : Nat)) := fun F G H σ s Q q => ha F G H σ s _ fun x G1 H1 s1 g1 r => by
  cases r
  exact ⟨i, rfl, q _ G1 H1 s1 g1 (.int _)⟩
theorem ints_of : ∀ {G : Hp} {vs : List V} {ns : List Int}, Reps K G vs (ns.map Dt.int) → vs = ns.map V.int
  | _, _, [], .nil => rfl
  | _, _, n :: ns, .cons h r => by
    cases h
    rw [ints_of r]
    rfl
theorem bools_of : ∀ {G : Hp} {vs : List V} {ns : List Bool}, Reps K G vs (ns.map Dt.bl) → vs = ns.map V.bl
  | _, _, [], .nil => rfl
  | _, _, n :: ns, .cons h r => by
    cases h
    rw [bools_of r]
    rfl
theorem ev_sum {ns : List Int} (ha : Ev K ta es (.lst (ns.map Dt.int))) : Ev K (tCB (rSum K) (tCons ta tNil)) es (.int ns.sum) := ld_1 ha fun F G H σ x s r Q q => by
  cases r with
  | lst h r =>
    have e := ints_of r
    subst e
    exact ⟨_, ns, rfl, s.g.seq h, q _ G H s (Same.refl _) (.int _)⟩
theorem ev_all {ns : List Bool} (ha : Ev K ta es (.lst (ns.map Dt.bl))) : Ev K (tCB (rAll K) (tCons ta tNil)) es (.bl (ns.all id)) := ld_1 ha fun F G H σ x s r Q q => by
  cases r with
  | lst h r =>
    have e := bools_of r
    subst e
    exact ⟨_, ns, rfl, s.g.seq h, q _ G H s (Same.refl _) (.bl _)⟩
theorem ev_any {ns : List Bool} (ha : Ev K ta es (.lst (ns.map Dt.bl))) : Ev K (tCB (rAny K) (tCons ta tNil)) es (.bl (ns.any id)) := ld_1 ha fun F G H σ x s r Q q => by
  cases r with
  | lst h r =>
    have e := bools_of r
    subst e
    exact ⟨_, ns, rfl, s.g.seq h, q _ G H s (Same.refl _) (.bl _)⟩
def maxL : List Int → Option Int
  | [] => none
  | x :: xs => some (xs.foldl max x)
def minL : List Int → Option Int
  | [] => none
  | x :: xs => some (xs.foldl min x)
theorem foldl_max : ∀ (xs : List Int) (x : Int), (xs.foldl max x = x ∨ xs.foldl max x ∈ xs) ∧ x ≤ xs.foldl max x ∧ ∀ y ∈ xs, y ≤ xs.foldl max x
  | [], x => ⟨.inl rfl, Int.le_refl _, fun _ h => nomatch h⟩
  | y :: xs, x => by
    obtain ⟨h1, h2, h3⟩ := foldl_max xs (max x y)
    refine ⟨?_, ?_, fun z hz => ?_⟩
    · show xs.foldl max (max x y) = x ∨ xs.foldl max (max x y) ∈ y :: xs
      rcases h1 with h1 | h1
      · rw [h1]
        by_cases h : x ≤ y
        · right
          rw [Int.max_eq_right h]
          exact List.mem_cons_self
        · left
          exact Int.max_eq_left (by omega)
      · exact .inr (List.mem_cons_of_mem _ h1)
    · show x ≤ xs.foldl max (max x y)
      omega
    · show z ≤ xs.foldl max (max x y)
      rcases List.mem_cons.mp hz with e | e
      · subst e
        omega
      · exact h3 z e
theorem foldl_min : ∀ (xs : List Int) (x : Int), (xs.foldl min x = x ∨ xs.foldl min x ∈ xs) ∧ xs.foldl min x ≤ x ∧ ∀ y ∈ xs, xs.foldl min x ≤ y
  | [], x => ⟨.inl rfl, Int.le_refl _, fun _ h => nomatch h⟩
  | y :: xs, x => by
    obtain ⟨h1, h2, h3⟩ := foldl_min xs (min x y)
    refine ⟨?_, ?_, fun z hz => ?_⟩
    · show xs.foldl min (min x y) = x ∨ xs.foldl min (min x y) ∈ y :: xs
      rcases h1 with h1 | h1
      · rw [h1]
        by_cases h : x ≤ y
        · left
          exact Int.min_eq_left h
        · right
          rw [Int.min_eq_right (by omega)]
          exact List.mem_cons_self
      · exact .inr (List.mem_cons_of_mem _ h1)
    · show xs.foldl min (min x y) ≤ x
      omega
    · show xs.foldl min (min x y) ≤ z
      rcases List.mem_cons.mp hz with e | e
      · subst e
        omega
      · exact h3 z e
theorem maxL_spec {ns : List Int} {k : Int} (h : maxL ns = some k) : k ∈ ns ∧ ∀ y ∈ ns, y ≤ k := by
  cases ns with
  | nil => cases h
  | cons x xs =>
    cases h
    obtain ⟨h1, h2, h3⟩ := foldl_max xs x
    refine ⟨?_, fun y hy => ?_⟩
    · rcases h1 with h1 | h1
      · rw [h1]
        exact List.mem_cons_self
      · exact List.mem_cons_of_mem _ h1
    · rcases List.mem_cons.mp hy with e | e
      · subst e
        exact h2
      · exact h3 y e
theorem minL_spec {ns : List Int} {k : Int} (h : minL ns = some k) : k ∈ ns ∧ ∀ y ∈ ns, k ≤ y := by
  cases ns with
  | nil => cases h
  | cons x xs =>
    cases h
    obtain ⟨h1, h2, h3⟩ := foldl_min xs x
    refine ⟨?_, fun y hy => ?_⟩
    · rcases h1 with h1 | h1
      · rw [h1]
        exact List.mem_cons_self
      · exact List.mem_cons_of_mem _ h1
    · rcases List.mem_cons.mp hy with e | e
      · subst e
        exact h2
      · exact h3 y e
theorem ev_maxL {ns : List Int} {k : Int} (ha : Ev K ta es (.lst (ns.map Dt.int))) (hk : maxL ns = some k) : Ev K (tCB (rMax K) (tCons ta tNil)) es (.int k) := ld_1 ha fun F G H σ x s r Q q => by
  cases r with
  | lst h r =>
    have e := ints_of r
    subst e
    obtain ⟨k1, k2⟩ := maxL_spec hk
    refine ⟨_, ns, rfl, s.g.seq h, List.length_pos_of_mem k1, fun m h1 h2 => ?_⟩
    have : m = k := Int.le_antisymm (k2 m h1) (h2 k k1)
    subst this
    exact q _ G H s (Same.refl _) (.int _)
theorem ev_minL {ns : List Int} {k : Int} (ha : Ev K ta es (.lst (ns.map Dt.int))) (hk : minL ns = some k) : Ev K (tCB (rMin K) (tCons ta tNil)) es (.int k) := ld_1 ha fun F G H σ x s r Q q => by
  cases r with
  | lst h r =>
    have e := ints_of r
    subst e
    obtain ⟨k1, k2⟩ := minL_spec hk
    refine ⟨_, ns, rfl, s.g.seq h, List.length_pos_of_mem k1, fun m h1 h2 => ?_⟩
    have : m = k := Int.le_antisymm (h2 k k1) (k2 m h1)
    subst this
    exact q _ G H s (Same.refl _) (.int _)
/-- the type of data, where it is a built-in one -/
def tyD : Dt → String
  | .non => "NoneType" | .bl _ => "bool" | .int _ => "int" | .str _ => "str" | .ty _ => "type" | .tup _ => "tuple" | .lst _ => "list" | .obj _ _ => "" | .dic _ _ => ""
theorem tyX_of {G H : Hp} {x : V} {d : Dt} (g : Same G H) (r : Rep K G x d) (h : tyD d ≠ "" ∧ tyD d ≠ "type") : TyX K H x (.type (tyD d)) := by
  cases r with
  | non => exact .base .non
  | bl b => exact .base (.bl b)
  | int i => exact .base (.int i)
  | str s => exact .base (.str s)
  | ty n => exact absurd rfl h.2
  | tup hs _ =>
    rcases hs with (e | ⟨o, e⟩) | ⟨o, its, n, e, c, _⟩
    · exact .base (.tup (g _ _ e))
    · exact .fTuple (g _ _ e)
    · exact .kTuple e c
  | lst hs _ =>
    rcases hs with (e | ⟨o, e⟩) | ⟨o, its, n, e, c, _⟩
    · exact .base (.lst (g _ _ e))
    · exact .base (.frz (g _ _ e))
    · exact .kList e c
  | obj h2 _ => exact absurd rfl h.1
  | dic h2 _ => exact absurd rfl h.1
theorem ev_isi {a : Dt} {n t : String} {b : Bool} (ht : tyD a = t) (h1 : t ≠ "") (h2 : t ≠ "type") (hk : kitB t n = some b) (ha : Ev K ta es a) (hb : Ev K tb es (.ty n)) : Ev K (tCB (rIsi K) (tCons ta (tCons tb tNil))) es (.bl b) := ld_2 ha hb fun F G H σ x y s r r' Q q => by
  cases r'
  subst ht
  exact ⟨x, _, _, _, b, rfl, .ty n, tyX_of s.g r ⟨h1, h2⟩, kit_ty hk, q _ G H s (Same.refl _) (.bl _)⟩
theorem ev_ty {n : String} : Ev K (tC (.ty n)) es (.ty n) := fun F G H σ s Q q => q _ G H s (Same.refl _) (.ty n)
/-- a global that stands in the written part, or a number -/
theorem ev_const {v : V} (h : ∀ G, Rep K G v d) : Ev K (tC v) es d := fun F G H σ s Q q => q v G H s (Same.refl _) (h G)
theorem ev_ixN {ds : List Dt} {i : Int} {n : Nat} (ha : Ev K ta es (.tup ds)) (hi : i = (n : Int)) (h : ds[n]? = some d) : Ev K (tOp (rIxT K) ta (tC (.int i))) es d := by
  refine ev_ixT ha ev_int ?_
  have hlt : n < ds.length := (List.getElem?_eq_some_iff.mp h).1
  unfold atI ixN
  subst hi
  rw [if_pos (by omega), if_pos (by omega)]
  exact h
theorem ev_ixLN {ds : List Dt} {i : Int} {n : Nat} (ha : Ev K ta es (.lst ds)) (hi : i = (n : Int)) (h : ds[n]? = some d) : Ev K (tOp (rIxL K) ta (tC (.int i))) es d := by
  refine ev_ixL ha ev_int ?_
  have hlt : n < ds.length := (List.getElem?_eq_some_iff.mp h).1
  unfold atI ixN
  subst hi
  rw [if_pos (by omega), if_pos (by omega)]
  exact h
end
end DL

namespace DL
open PySem L2

abbrev dT6 {α β γ δ ε ζ : Type} (e1 : α → Dt) (e2 : β → Dt) (e3 : γ → Dt) (e4 : δ → Dt) (e5 : ε → Dt) (e6 : ζ → Dt) (x : α × β × γ × δ × ε × ζ) : Dt := .tup [e1 x.1, e2 x.2.1, e3 x.2.2.1, e4 x.2.2.2.1, e5 x.2.2.2.2.1, e6 x.2.2.2.2.2]
abbrev dT7 {α β γ δ ε ζ η : Type} (e1 : α → Dt) (e2 : β → Dt) (e3 : γ → Dt) (e4 : δ → Dt) (e5 : ε → Dt) (e6 : ζ → Dt) (e7 : η → Dt) (x : α × β × γ × δ × ε × ζ × η) : Dt := .tup [e1 x.1, e2 x.2.1, e3 x.2.2.1, e4 x.2.2.2.1, e5 x.2.2.2.2.1, e6 x.2.2.2.2.2.1, e7 x.2.2.2.2.2.2]
abbrev dF1 {α : Type} (e1 : α → Dt) (x : α) : Dt := .lst [e1 x]
abbrev dF2 {α β : Type} (e1 : α → Dt) (e2 : β → Dt) (x : α × β) : Dt := .lst [e1 x.1, e2 x.2]
abbrev dF3 {α β γ : Type} (e1 : α → Dt) (e2 : β → Dt) (e3 : γ → Dt) (x : α × β × γ) : Dt := .lst [e1 x.1, e2 x.2.1, e3 x.2.2]
abbrev dF4 {α β γ δ : Type} (e1 : α → Dt) (e2 : β → Dt) (e3 : γ → Dt) (e4 : δ → Dt) (x : α × β × γ × δ) : Dt := .lst [e1 x.1, e2 x.2.1, e3 x.2.2.1, e4 x.2.2.2]
abbrev dF5 {α β γ δ ε : Type} (e1 : α → Dt) (e2 : β → Dt) (e3 : γ → Dt) (e4 : δ → Dt) (e5 : ε → Dt) (x : α × β × γ × δ × ε) : Dt := .lst [e1 x.1, e2 x.2.1, e3 x.2.2.1, e4 x.2.2.2.1, e5 x.2.2.2.2]
abbrev dF6 {α β γ δ ε ζ : Type} (e1 : α → Dt) (e2 : β → Dt) (e3 : γ → Dt) (e4 : δ → Dt) (e5 : ε → Dt) (e6 : ζ → Dt) (x : α × β × γ × δ × ε × ζ) : Dt := .lst [e1 x.1, e2 x.2.1, e3 x.2.2.1, e4 x.2.2.2.1, e5 x.2.2.2.2.1, e6 x.2.2.2.2.2]
abbrev dF7 {α β γ δ ε ζ η : Type} (e1 : α → Dt) (e2 : β → Dt) (e3 : γ → Dt) (e4 : δ → Dt) (e5 : ε → Dt) (e6 : ζ → Dt) (e7 : η → Dt) (x : α × β × γ × δ × ε × ζ × η) : Dt := .lst [e1 x.1, e2 x.2.1, e3 x.2.2.1, e4 x.2.2.2.1, e5 x.2.2.2.2.1, e6 x.2.2.2.2.2.1, e7 x.2.2.2.2.2.2]
abbrev dF8 {α β γ δ ε ζ η θ : Type} (e1 : α → Dt) (e2 : β → Dt) (e3 : γ → Dt) (e4 : δ → Dt) (e5 : ε → Dt) (e6 : ζ → Dt) (e7 : η → Dt) (e8 : θ → Dt) (x : α × β × γ × δ × ε × ζ × η × θ) : Dt := .lst [e1 x.1, e2 x.2.1, e3 x.2.2.1, e4 x.2.2.2.1, e5 x.2.2.2.2.1, e6 x.2.2.2.2.2.1, e7 x.2.2.2.2.2.2.1, e8 x.2.2.2.2.2.2.2]
abbrev dT8 {α β γ δ ε ζ η θ : Type} (e1 : α → Dt) (e2 : β → Dt) (e3 : γ → Dt) (e4 : δ → Dt) (e5 : ε → Dt) (e6 : ζ → Dt) (e7 : η → Dt) (e8 : θ → Dt) (x : α × β × γ × δ × ε × ζ × η × θ) : Dt := .tup [e1 x.1, e2 x.2.1, e3 x.2.2.1, e4 x.2.2.2.1, e5 x.2.2.2.2.1, e6 x.2.2.2.2.2.1, e7 x.2.2.2.2.2.2.1, e8 x.2.2.2.2.2.2.2]
theorem bt_len : bootBuiltins "len" = some (.builtin "len") := by decide +kernel
theorem bt_isinstance : bootBuiltins "isinstance" = some (.builtin "isinstance") := by decide +kernel
theorem bt_min : bootBuiltins "min" = some (.builtin "min") := by decide +kernel
theorem bt_max : bootBuiltins "max" = some (.builtin "max") := by decide +kernel
theorem bt_abs : bootBuiltins "abs" = some (.builtin "abs") := by decide +kernel
theorem bt_sum : bootBuiltins "sum" = some (.builtin "sum") := by decide +kernel
theorem bt_sorted : bootBuiltins "sorted" = some (.builtin "sorted") := by decide +kernel
theorem bt_all : bootBuiltins "all" = some (.builtin "all") := by decide +kernel
theorem bt_any : bootBuiltins "any" = some (.builtin "any") := by decide +kernel
theorem bt_repr : bootBuiltins "repr" = some (.builtin "repr") := by decide +kernel
theorem bt_range : bootBuiltins "range" = some (.type "range") := by decide +kernel
theorem bt_int : bootBuiltins "int" = some (.type "int") := by decide +kernel
theorem bt_tuple : bootBuiltins "tuple" = some (.type "tuple") := by decide +kernel
theorem bt_list : bootBuiltins "list" = some (.type "list") := by decide +kernel
theorem bt_str : bootBuiltins "str" = some (.type "str") := by decide +kernel
theorem bt_dict : bootBuiltins "dict" = some (.type "dict") := by decide +kernel
theorem bt_type : bootBuiltins "type" = some (.type "type") := by decide +kernel
theorem bt_enumerate : bootBuiltins "enumerate" = some (.type "enumerate") := by decide +kernel
theorem bt_bool : bootBuiltins "bool" = some (.type "bool") := by decide +kernel
theorem bt_set : bootBuiltins "set" = some (.type "set") := by decide +kernel
theorem bt_zip : bootBuiltins "zip" = some (.type "zip") := by decide +kernel
theorem bt_reversed : bootBuiltins "reversed" = some (.type "reversed") := by decide +kernel
theorem bt_map : bootBuiltins "map" = some (.type "map") := by decide +kernel
section
variable {K : PySem.W.Frag} {es : List Sl} {ρ : Type} {t u tz : TS} {m : Option ρ} {oc : ρ → Res} {te ta tb : TE} {tt : TT} {d : Dt}
theorem sm_run {r : ρ} (h : m = some r) (p : SM K t es m oc) : SEv K t es (oc r) := p r h
theorem wk_n : Wk [] [] := trivial
theorem wk_e {a : Sl} {as bs : List Sl} (h : Wk as bs) : Wk (a :: as) (a :: bs) := ⟨.inr rfl, h⟩
theorem wk_u {a : Sl} {as bs : List Sl} (h : Wk as bs) : Wk (a :: as) (.un :: bs) := ⟨.inl rfl, h⟩
theorem wk_uns : ∀ {as : List Sl} {n : Nat}, as.length = n → Wk as (List.replicate n .un)
  | [], _, h => by subst h; trivial
  | a :: as, _, h => by subst h; exact ⟨.inl rfl, wk_uns rfl⟩
/-- partial values within a branch -/
theorem ev_pure {α : Type} {em : α → Dt} {v : α} (h : Ev K te es (em v)) : ∀ y, some v = some y → Ev K te es (em y) := fun y e => by cases e; exact h
theorem ev_bnd {α β : Type} {em : β → Dt} {m1 : Option α} {k : α → Option β} (h : ∀ x, m1 = some x → ∀ y, k x = some y → Ev K te es (em y)) : ∀ y, m1.bind k = some y → Ev K te es (em y) := fun y e => by
  cases q : m1 with
  | none => rw [q] at e; cases e
  | some x => rw [q] at e; exact h x q y e
theorem et_pure {v : Bool} (h : EvT K tt es v) : ∀ y, some v = some y → EvT K tt es y := fun y e => by cases e; exact h
theorem et_bnd {α : Type} {m1 : Option α} {k : α → Option Bool} (h : ∀ x, m1 = some x → ∀ y, k x = some y → EvT K tt es y) : ∀ y, m1.bind k = some y → EvT K tt es y := fun y e => by
  cases q : m1 with
  | none => rw [q] at e; cases e
  | some x => rw [q] at e; exact h x q y e
theorem eb_pure {v : Bool} (h : Ev K te es (.bl v)) : ∀ y, some v = some y → Ev K te es (.bl y) := fun y e => by cases e; exact h
theorem eb_bnd {α : Type} {m1 : Option α} {k : α → Option Bool} (h : ∀ x, m1 = some x → ∀ y, k x = some y → Ev K te es (.bl y)) : ∀ y, m1.bind k = some y → Ev K te es (.bl y) := fun y e => by
  cases q : m1 with
  | none => rw [q] at e; cases e
  | some x => rw [q] at e; exact h x q y e
theorem rngC_of {lo hi : Int} (h : -(2 ^ 62) ≤ lo ∧ lo < 2 ^ 62 ∧ -(2 ^ 62) ≤ hi ∧ hi < 2 ^ 62) : rngC lo hi = some (rng lo hi) := if_pos h

/-! ### comprehensions, by their kinds -/
def mapO {α β : Type} : List α → (α → Option β) → Option (List β)
  | [], _ => some []
  | x :: xs, f => (f x).bind fun y => (mapO xs f).bind fun ys => some (y :: ys)
def mapC {α β : Type} (xs : List α) (f : α → Option β) : Option (List β) := if xs.length ≤ 1000000 then mapO xs f else none
def mapP {α β : Type} (xs : List α) (f : α → β) : Option (List β) := if xs.length ≤ 1000000 then some (xs.map f) else none
def filC {α β : Type} (xs : List α) (f : α → Option (Option β)) : Option (List β) := if xs.length ≤ 1000000 then compO xs f else none
theorem compO_mapO {α β : Type} {f : α → Option β} : ∀ {xs : List α}, compO xs (fun x => (f x).bind fun y => some (some y)) = mapO xs f
  | [] => rfl
  | x :: xs => by
    show ((f x).bind _).bind _ = (f x).bind _
    cases f x with
    | none => rfl
    | some y =>
      show (compO xs _).bind _ = (mapO xs f).bind _
      rw [compO_mapO]
      rfl
theorem mapO_map {α β : Type} {f : α → β} : ∀ {xs : List α}, mapO xs (fun x => some (f x)) = some (xs.map f)
  | [] => rfl
  | x :: xs => by
    show (mapO xs _).bind _ = _
    rw [mapO_map]
    rfl
theorem et_yes : EvT K tYes es true := fun F G H σ s Q q => q G H s (Same.refl _)
section
variable {α β : Type} {wi : TI} {g : TG} {vs : List Nat} {xs : List α} {em : α → Dt} {em2 : β → Dt} {ys : List β} {en2 : α → List Sl}
theorem el_map {f : α → Option β} (hi : EvI K wi es (xs.map em)) (hg : ∀ x, EvG K g vs (wipeS es vs) (em x) (en2 x)) (hb : ∀ x, ∀ y, f x = some y → Ev K te (en2 x) (em2 y)) (hd : es.all (fun t => !t.isOwn) = true) (h : mapC xs f = some ys) :
    EvL K (tLc wi g tYes te vs) es (ys.map em2) := by
  unfold mapC at h
  by_cases hz : xs.length ≤ 1000000
  · rw [if_pos hz] at h
    refine el_comp (f := fun x => (f x).bind fun y => some (some y)) hi hz hg (fun x o _ e => ?_) hd (compO_mapO.trans h)
    cases q : f x with
    | none => rw [q] at e; cases e
    | some y =>
      rw [q] at e
      cases e
      exact ⟨et_yes, fun z e => by cases e; exact hb x y q⟩
  · rw [if_neg hz] at h
    cases h
theorem el_mapP {f : α → β} (hi : EvI K wi es (xs.map em)) (hg : ∀ x, EvG K g vs (wipeS es vs) (em x) (en2 x)) (hb : ∀ x, Ev K te (en2 x) (em2 (f x))) (hd : es.all (fun t => !t.isOwn) = true) (h : mapP xs f = some ys) :
    EvL K (tLc wi g tYes te vs) es (ys.map em2) := by
  unfold mapP at h
  by_cases hz : xs.length ≤ 1000000
  · rw [if_pos hz] at h
    exact el_map (f := fun x => some (f x)) hi hg (fun x y e => by cases e; exact hb x) hd (by unfold mapC; rw [if_pos hz, mapO_map]; exact h)
  · rw [if_neg hz] at h
    cases h
theorem cb_if {c : Bool} {m : Option β} (hc : EvT K tt es c) (hb : c = true → ∀ y, m = some y → Ev K te es (em2 y)) : ∀ o, (if c = true then m.bind fun y => some (some y) else some none) = some o → EvT K tt es o.isSome ∧ ∀ y, o = some y → Ev K te es (em2 y) := fun o e => by
  cases c with
  | false =>
    have e : none = o := Option.some.inj e
    subst e
    exact ⟨hc, fun y h => nomatch h⟩
  | true =>
    cases q : m with
    | none => rw [q] at e; cases e
    | some y =>
      rw [q] at e
      have e : some y = o := Option.some.inj e
      subst e
      exact ⟨hc, fun z h => by cases h; exact hb rfl y q⟩
theorem el_fil {tt : TT} {f : α → Option (Option β)} (hi : EvI K wi es (xs.map em)) (hg : ∀ x, EvG K g vs (wipeS es vs) (em x) (en2 x)) (hb : ∀ x, ∀ o, f x = some o → EvT K tt (en2 x) o.isSome ∧ ∀ y, o = some y → Ev K te (en2 x) (em2 y)) (hd : es.all (fun t => !t.isOwn) = true) (h : filC xs f = some ys) :
    EvL K (tLc wi g tt te vs) es (ys.map em2) := by
  unfold filC at h
  by_cases hz : xs.length ≤ 1000000
  · rw [if_pos hz] at h
    exact el_comp hi hz hg (fun x o _ e => hb x o e) hd h
  · rw [if_neg hz] at h
    cases h
end

/-! a comprehension over items that are known one by one -/
def AllEv (K : PySem.W.Frag) (te : TE) {α : Type} (en2 : α → List Sl) : List α → List Dt → Prop
  | [], [] => True
  | x :: xs, d :: ds => Ev K te (en2 x) d ∧ AllEv K te en2 xs ds
  | _, _ => False
theorem ae_n {α : Type} {en2 : α → List Sl} : AllEv K te en2 [] [] := trivial
theorem ae_c {α : Type} {en2 : α → List Sl} {x : α} {xs : List α} {d : Dt} {ds : List Dt} (h : Ev K te (en2 x) d) (r : AllEv K te en2 xs ds) : AllEv K te en2 (x :: xs) (d :: ds) := ⟨h, r⟩
theorem AllEv.len {α : Type} {en2 : α → List Sl} : ∀ {xs : List α} {ds : List Dt}, AllEv K te en2 xs ds → xs.length = ds.length
  | [], [], _ => rfl
  | _ :: _, _ :: _, h => congrArg (· + 1) (AllEv.len h.2)
  | [], _ :: _, h => h.elim
  | _ :: _, [], h => h.elim
theorem AllEv.get {α : Type} {en2 : α → List Sl} : ∀ {xs : List α} {ds : List Dt} {i : Nat} {x : α} {d : Dt}, AllEv K te en2 xs ds → xs[i]? = some x → ds[i]? = some d → Ev K te (en2 x) d
  | [], [], _, _, _, _, e, _ => by simp at e
  | x :: xs, d :: ds, 0, _, _, h, e, e' => by simp at e e'; subst e e'; exact h.1
  | x :: xs, d :: ds, i + 1, _, _, h, e, e' => AllEv.get (i := i) h.2 (by simpa using e) (by simpa using e')
  | [], _ :: _, _, _, _, h, _, _ => h.elim
  | _ :: _, [], _, _, _, h, _, _ => h.elim
theorem el_fix {α : Type} {wi : TI} {g : TG} {vs : List Nat} {xs : List α} {em : α → Dt} {ds : List Dt} {en2 : α → List Sl} (hi : EvI K wi es (xs.map em)) (hz : xs.length ≤ 1000000) (hg : ∀ x, EvG K g vs (wipeS es vs) (em x) (en2 x))
    (hb : AllEv K te en2 xs ds) (hd : es.all (fun t => !t.isOwn) = true) : EvL K (tLc wi g tYes te vs) es ds := fun F G H σ st Q q => by
  refine hi F G H σ st _ fun J G1 H1 s1 g1 y => fun Dl hD => ?_
  have hF : F Dl = none := s1.fnone hD
  have sz : (1000000 : Nat) < sizeLine := by decide
  have hlen := hb.len
  refine ⟨fun i m H' => ∃ (G' : Hp) (acc : List V), Stt K (upd F Dl (.lst acc)) G' H' σ es ∧ Same G1 G' ∧ Reps K G' acc (ds.take i) ∧ m = xs.length - i ∧ i ≤ xs.length,
    ⟨_, G1, [], s1.prot hD, Same.refl _, .nil, rfl, Nat.zero_le _⟩, ?_⟩
  rintro i m H' ⟨G', acc, st', g', racc, rfl, hle⟩
  by_cases hlt : i < xs.length
  · refine .inr ?_
    have hld : i < ds.length := by omega
    obtain ⟨go, yld⟩ := (y i _ G' H' σ es g' st').1 (em xs[i]) (by rw [List.getElem?_map, List.getElem?_eq_getElem hlt]; rfl)
    refine ⟨go, fun H2 => ∃ (G2 : Hp) (acc2 : List V), Stt K (upd F Dl (.lst acc2)) G2 H2 σ es ∧ Same G1 G2 ∧ Reps K G2 acc2 (ds.take (i + 1)),
      fun H2 ⟨G2, acc2, a1, a2, a3⟩ => ⟨xs.length - (i + 1), by omega, G2, acc2, a1, a2, a3, rfl, by omega⟩, fun x H2 hy => ?_⟩
    obtain ⟨G2, st2, g2, rx⟩ := yld x H2 hy
    have hte : Ev K te (en2 xs[i]) ds[i] := hb.get (List.getElem?_eq_getElem hlt) (List.getElem?_eq_getElem hld)
    refine hg xs[i] (upd F Dl (.lst acc)) G2 H2 (L2.wipe σ vs) x (st2.wipe vs) rx _ fun σ3 G3 H3 st3 g3 l3 k3 => ?_
    refine ⟨by rw [wipe_ext (σ := L2.wipe σ vs) l3 k3]; exact wipe_ext (wipe_length _ _) fun k hk => wipe_get hk, ?_⟩
    show te σ3 H3 _
    refine hte _ G3 H3 σ3 st3 _ fun v G5 H5 st5 g5 r5 => ?_
    have hzl2 : acc.length = i := by
      have := racc.length
      rw [List.length_take] at this
      omega
    refine ⟨acc, st5.f Dl _ upd_same, ?_, G5, acc ++ [v], (st2.swap hd st5 (g3.trans g5)).reprot, g'.trans (g2.trans (g3.trans g5)), ?_⟩
    · omega
    · rw [List.take_add_one, List.getElem?_eq_getElem hld]
      exact (racc.mono (g2.trans (g3.trans g5))).append (.cons r5 .nil)
  · have e3 : i = xs.length := by omega
    subst e3
    refine .inl ⟨(y xs.length _ G' H' σ es g' st').2 (by simp), ?_⟩
    rw [hlen, List.take_length] at racc
    exact q Dl acc G' H' st' hF (g1.trans g') racc
theorem ev_ixNG {tb : TE} {ds : List Dt} {i : Int} (n : Nat) (hi : i = (n : Int)) (h : ds[n]? = some d) (ha : Ev K ta es (.tup ds)) (hb : Ev K tb es (.int i)) : Ev K (tOp (rIxT K) ta tb) es d := by
  refine ev_ixT ha hb ?_
  have hlt : n < ds.length := (List.getElem?_eq_some_iff.mp h).1
  unfold atI ixN
  subst hi
  rw [if_pos (by omega), if_pos (by omega)]
  exact h
theorem ev_ixLG {tb : TE} {ds : List Dt} {i : Int} (n : Nat) (hi : i = (n : Int)) (h : ds[n]? = some d) (ha : Ev K ta es (.lst ds)) (hb : Ev K tb es (.int i)) : Ev K (tOp (rIxL K) ta tb) es d := by
  refine ev_ixL ha hb ?_
  have hlt : n < ds.length := (List.getElem?_eq_some_iff.mp h).1
  unfold atI ixN
  subst hi
  rw [if_pos (by omega), if_pos (by omega)]
  exact h
/-! ### == of data -/
mutual
def pd : Dt → PyData
  | .non => .none | .bl b => .bool b | .int i => .int i | .str s => .str s | .ty _ => .none
  | .tup xs => .tuple (pds xs) | .lst xs => .list (pds xs) | .obj _ _ => .none | .dic _ _ => .none
def pds : List Dt → List PyData
  | [] => []
  | x :: xs => pd x :: pds xs
end
mutual
inductive SH : Nat → Dt → Prop
  | non {n : Nat} : SH n .non
  | bl {n : Nat} {b : Bool} : SH n (.bl b)
  | int {n : Nat} {i : Int} : SH n (.int i)
  | str {n : Nat} {s : Str} (h : PyData.canLay0 (.str s) = true) : SH n (.str s)
  | tup {n : Nat} {xs : List Dt} (h : SHs n xs) : SH (n + 1) (.tup xs)
  | lst {n : Nat} {xs : List Dt} (h : SHs n xs) : SH (n + 1) (.lst xs)
inductive SHs : Nat → List Dt → Prop
  | nil {n : Nat} : SHs n []
  | cons {n : Nat} {x : Dt} {xs : List Dt} (h : SH n x) (r : SHs n xs) : SHs n (x :: xs)
end
theorem shI {n : Nat} {i : Int} : SH n (.int i) := .int
theorem shB {n : Nat} {i : Bool} : SH n (.bl i) := .bl
theorem shN {n : Nat} : SH n .non := .non
theorem shT {n : Nat} {xs : List Dt} (h : SHs n xs) : SH (n + 1) (.tup xs) := .tup h
theorem shs_nil {n : Nat} : SHs n [] := .nil
theorem shs_cons {n : Nat} {x : Dt} {xs : List Dt} (h : SH n x) (r : SHs n xs) : SHs n (x :: xs) := .cons h r
theorem shs_map {α : Type} {n : Nat} {e : α → Dt} : ∀ {xs : List α}, (∀ x, SH n (e x)) → SHs n (xs.map e)
  | [], _ => .nil
  | x :: xs, h => .cons (h x) (shs_map h)
theorem shV {α : Type} {n : Nat} {e : α → Dt} {xs : List α} (h : ∀ x, SH n (e x)) : SH (n + 1) (.tup (xs.map e)) := .tup (shs_map h)
theorem shL {α : Type} {n : Nat} {e : α → Dt} {xs : List α} (h : ∀ x, SH n (e x)) : SH (n + 1) (.lst (xs.map e)) := .lst (shs_map h)
theorem shO {α : Type} {n : Nat} {e : α → Dt} {x : Option α} (h : ∀ x, SH n (e x)) : SH n (dO e x) := by
  cases x with
  | none => exact .non
  | some x => exact h x
mutual
theorem SH.lay : ∀ {n : Nat} {d : Dt}, SH n d → (pd d).canLay0 = true ∧ (pd d).depth ≤ n
  | _, _, .non => ⟨by simp [pd, PyData.canLay0], by simp [pd, PyData.depth]⟩
  | _, _, .bl => ⟨by simp [pd, PyData.canLay0], by simp [pd, PyData.depth]⟩
  | _, _, .int => ⟨by simp [pd, PyData.canLay0], by simp [pd, PyData.depth]⟩
  | _, _, .str h => ⟨by simpa [pd] using h, by simp [pd, PyData.depth]⟩
  | _, _, .tup h => by
    obtain ⟨a, b⟩ := SHs.lay h
    exact ⟨by simpa [pd, PyData.canLay0] using a, by simp [pd, PyData.depth]; exact b⟩
  | _, _, .lst h => by
    obtain ⟨a, b⟩ := SHs.lay h
    exact ⟨by simpa [pd, PyData.canLay0] using a, by simp [pd, PyData.depth]; exact b⟩
theorem SHs.lay : ∀ {n : Nat} {ds : List Dt}, SHs n ds → PyData.canLayAll0 (pds ds) = true ∧ PyData.depthAll (pds ds) ≤ n
  | _, _, .nil => ⟨by simp [pds, PyData.canLayAll0], by simp [pds, PyData.depthAll]⟩
  | _, _, .cons h r => by
    obtain ⟨a, b⟩ := SH.lay h
    obtain ⟨c, d⟩ := SHs.lay r
    exact ⟨by simp [pds, PyData.canLayAll0, a, c], by simp [pds, PyData.depthAll]; omega⟩
end
mutual
theorem SH.dp {G H : Hp} (g : Same G H) : ∀ {n : Nat} {d : Dt} {v : V}, SH n d → Rep K G v d → Dp K H v (pd d)
  | _, _, _, .non, .non => by simp only [pd]; exact .non
  | _, _, _, .bl, .bl b => by simp only [pd]; exact .bl b
  | _, _, _, .int, .int i => by simp only [pd]; exact .int i
  | _, _, _, .str _, .str s => by simp only [pd]; exact .str s
  | _, _, _, .tup h, .tup hs r => by simp only [pd]; exact .tup (sqT_mono g hs) (SHs.dp g h r)
  | _, _, _, .lst h, .lst hs r => by simp only [pd]; exact .lst (g.seq hs) (SHs.dp g h r)
theorem SHs.dp {G H : Hp} (g : Same G H) : ∀ {n : Nat} {ds : List Dt} {vs : List V}, SHs n ds → Reps K G vs ds → DpAll K H vs (pds ds)
  | _, _, _, .nil, .nil => by simp only [pds]; exact .nil
  | _, _, _, .cons h r, .cons a b => by simp only [pds]; exact .cons (SH.dp g h a) (SHs.dp g r b)
end
def eqD (a b : Dt) : Bool := PyData.eqv (pd a) (pd b)
theorem shaped_of {d : Dt} (h : SH 64 d) : SeqAt.shaped (pd d) = true := by
  obtain ⟨a, b⟩ := h.lay
  unfold SeqAt.shaped
  rw [a, decide_eq_true b]
  rfl
theorem ev_eqD {a b : Dt} (sa : SH 64 a) (sb : SH 64 b) (ha : Ev K ta es a) (hb : Ev K tb es b) : Ev K (tOp (rEqD K) ta tb) es (.bl (eqD a b)) := ev_op ha hb fun F G H σ es x y s rx ry Q q =>
  ⟨pd a, pd b, sa.dp s.g rx, sb.dp s.g ry, shaped_of sa, shaped_of sb, q _ G H s (Same.refl _) (.bl _)⟩
theorem ev_neD {a b : Dt} (sa : SH 64 a) (sb : SH 64 b) (ha : Ev K ta es a) (hb : Ev K tb es b) : Ev K (tOp (rNeD K) ta tb) es (.bl (!eqD a b)) := ev_op ha hb fun F G H σ es x y s rx ry Q q =>
  ⟨pd a, pd b, sa.dp s.g rx, sb.dp s.g ry, shaped_of sa, shaped_of sb, q _ G H s (Same.refl _) (.bl _)⟩
theorem ev_lenVN {ds : List Dt} (n : Int) (ha : Ev K ta es (.tup ds)) (h : (ds.length : Int) = n) : Ev K (tCB (rLenS K) (tCons ta tNil)) es (.int n) := h ▸ ev_lenV ha
theorem ev_lenLN {ds : List Dt} (n : Int) (ha : Ev K ta es (.lst ds)) (h : (ds.length : Int) = n) : Ev K (tCB (rLenS K) (tCons ta tNil)) es (.int n) := h ▸ ev_lenL ha
theorem ev_some {α : Type} {em : α → Dt} {o : Option α} {x : α} (h : o = some x) (ha : Ev K te es (dO em o)) : Ev K te es (em x) := by
  subst h
  exact ha
def rIsB1 : R2 := fun x y H Q => ∃ a b : Bool, x = .bl a ∧ y = .bl b ∧ Q (.bl (decide (a = b))) H
def rNotB1 : R2 := fun x y H Q => ∃ a b : Bool, x = .bl a ∧ y = .bl b ∧ Q (.bl (!decide (a = b))) H
theorem op_isB1 {X : Cx} : OpR X (compareOp .Is) rIsB1 := op_isBl
theorem op_nisB1 {X : Cx} : OpR X (compareOp .IsNot) rNotB1 := op_notBl
theorem ev_isB {a b : Bool} (ha : Ev K ta es (.bl a)) (hb : Ev K tb es (.bl b)) : Ev K (tOp rIsB1 ta tb) es (.bl (decide (a = b))) := ev_op ha hb fun F G H σ es x y s rx ry Q q => by
  cases rx
  cases ry
  exact ⟨a, b, rfl, rfl, q _ G H s (Same.refl _) (.bl _)⟩
theorem ev_nisB {a b : Bool} (ha : Ev K ta es (.bl a)) (hb : Ev K tb es (.bl b)) : Ev K (tOp rNotB1 ta tb) es (.bl (!decide (a = b))) := ev_op ha hb fun F G H σ es x y s rx ry Q q => by
  cases rx
  cases ry
  exact ⟨a, b, rfl, rfl, q _ G H s (Same.refl _) (.bl _)⟩
theorem kit_self (K : PySem.W.Frag) (t : Value) : PySem.W.kitOne K t t = some true := if_pos (beq_iff_eq.mpr rfl)
/-- isinstance of an instance of an own class against that class -/
theorem ev_isiC {C : Addr} {fs : List (Str × Dt)} (cl : Cls K C) (h1 : PySem.W.findIn K (.ref C) "__class__" = some (some (.builtin "object.__class__"))) (h2 : PySem.W.specialIn K (.builtin "object.__class__") "__get__" = some (some (.builtin "getset_descriptor.__get__")))
    (h3 : PySem.W.takesIn K (.builtin "object.__class__") = some true) (h4 : PySem.W.mroIn K C (.type "object") = some true) (ha : Ev K ta es (.obj C fs)) : Ev K (tCB (rIsi K) (tCons ta (tCons (tC (.ref C)) tNil))) es (.bl true) := fun F G H σ s Q q =>
  ha F G H σ s _ fun x G1 H1 s1 g1 r1 => by
    cases r1 with
    | obj h r => exact ⟨_, _, _, _, true, rfl, .own C, .base (.ins (s1.g _ _ h) cl h1 h2 h3 h4), kit_self K (.ref C), q _ G1 H1 s1 g1 (.bl _)⟩
/-! is None -/
def isNon : Dt → Bool
  | .non => true
  | _ => false
theorem rep_non {G : Hp} {x : V} {d : Dt} (r : Rep K G x d) : decide (x = V.non) = isNon d := by
  cases r <;> simp [isNon]
theorem ev_isN (ha : Ev K ta es .non) : Ev K (tOp rIsN ta (tC .non)) es (.bl true) := fun F G H σ s Q q => ha F G H σ s _ fun x G1 H1 s1 g1 r1 => by
  cases r1
  exact ⟨rfl, q _ G1 H1 s1 g1 (.bl _)⟩
theorem ev_isG {b : Bool} (ha : Ev K ta es d) (hb : isNon d = b) : Ev K (tOp rIsN ta (tC .non)) es (.bl b) := fun F G H σ s Q q => ha F G H σ s _ fun x G1 H1 s1 g1 r1 => by
  refine ⟨rfl, ?_⟩
  rw [rep_non r1, hb]
  exact q _ G1 H1 s1 g1 (.bl _)
theorem ev_nisG {b : Bool} (ha : Ev K ta es d) (hb : isNon d = b) : Ev K (tOp rNotN ta (tC .non)) es (.bl (!b)) := fun F G H σ s Q q => ha F G H σ s _ fun x G1 H1 s1 g1 r1 => by
  refine ⟨rfl, ?_⟩
  rw [rep_non r1, hb]
  exact q _ G1 H1 s1 g1 (.bl _)
theorem isO {α : Type} {em : α → Dt} (h : ∀ x, em x = .non → False) (o : Option α) : isNon (dO em o) = o.isNone := by
  cases o with
  | none => rfl
  | some x =>
    show isNon (em x) = false
    cases q : em x with
    | non => exact (h x q).elim
    | _ => rfl
theorem ev_isO {α : Type} {em : α → Dt} {o : Option α} (h : ∀ x, em x = .non → False) (ha : Ev K ta es (dO em o)) : Ev K (tOp rIsN ta (tC .non)) es (.bl o.isNone) := ev_isG ha (isO h o)
theorem ev_nisO {α : Type} {em : α → Dt} {o : Option α} (h : ∀ x, em x = .non → False) (ha : Ev K ta es (dO em o)) : Ev K (tOp rNotN ta (tC .non)) es (.bl (!o.isNone)) := ev_nisG ha (isO h o)
theorem ev_isD (h : d = .non → False) (ha : Ev K ta es d) : Ev K (tOp rIsN ta (tC .non)) es (.bl false) := ev_isG ha (by cases d <;> first | rfl | exact (h rfl).elim)
theorem ev_nisD (h : d = .non → False) (ha : Ev K ta es d) : Ev K (tOp rNotN ta (tC .non)) es (.bl (!false)) := ev_nisG ha (by cases d <;> first | rfl | exact (h rfl).elim)
/-! in -/
theorem reps_int {G : Hp} {vs : List V} {xs : List Int} (r : Reps K G vs (xs.map Dt.int)) : vs = xs.map V.int := ints_of r
theorem inV_int {i : Int} : ∀ {xs : List Int}, inV (.int i) (xs.map V.int) = decide (i ∈ xs)
  | [] => rfl
  | x :: xs => by
    have ih := inV_int (i := i) (xs := xs)
    unfold inV at ih ⊢
    rw [List.map_cons, List.any_cons, ih]
    show (x == i || decide (i ∈ xs)) = decide (i ∈ x :: xs)
    rw [Bool.eq_iff_iff, Bool.or_eq_true, beq_iff_eq, decide_eq_true_eq, decide_eq_true_eq, List.mem_cons]
    exact ⟨fun h => h.imp Eq.symm (fun x => x), fun h => h.imp Eq.symm (fun x => x)⟩
theorem all_int : ∀ {xs : List Int}, (xs.map V.int).all flatV = true
  | [] => rfl
  | x :: xs => by
    rw [List.map_cons, List.all_cons, all_int]
    rfl
theorem ev_inTI {i : Int} {xs : List Int} (ha : Ev K ta es (.int i)) (hb : Ev K tb es (.tup (xs.map Dt.int))) : Ev K (tOp (rIn K false) ta tb) es (.bl (decide (i ∈ xs))) := ev_op ha hb fun F G H σ es x y s rx ry Q q => by
  cases rx
  cases ry with
  | tup h r =>
    obtain rfl := ints_of r
    refine ⟨_, _, rfl, .inr (sqT_mono s.g h), rfl, all_int, ?_⟩
    show Q (.bl (inV (.int i) (xs.map V.int))) H
    rw [inV_int]
    exact q _ G H s (Same.refl _) (.bl _)
theorem ev_ninTI {i : Int} {xs : List Int} (ha : Ev K ta es (.int i)) (hb : Ev K tb es (.tup (xs.map Dt.int))) : Ev K (tOp (rIn K true) ta tb) es (.bl (!decide (i ∈ xs))) := ev_op ha hb fun F G H σ es x y s rx ry Q q => by
  cases rx
  cases ry with
  | tup h r =>
    obtain rfl := ints_of r
    refine ⟨_, _, rfl, .inr (sqT_mono s.g h), rfl, all_int, ?_⟩
    show Q (.bl (!inV (.int i) (xs.map V.int))) H
    rw [inV_int]
    exact q _ G H s (Same.refl _) (.bl _)
theorem ev_inLI {i : Int} {xs : List Int} (ha : Ev K ta es (.int i)) (hb : Ev K tb es (.lst (xs.map Dt.int))) : Ev K (tOp (rIn K false) ta tb) es (.bl (decide (i ∈ xs))) := ev_op ha hb fun F G H σ es x y s rx ry Q q => by
  cases rx
  cases ry with
  | lst h r =>
    obtain rfl := ints_of r
    refine ⟨_, _, rfl, .inl (s.g.seq h), rfl, all_int, ?_⟩
    show Q (.bl (inV (.int i) (xs.map V.int))) H
    rw [inV_int]
    exact q _ G H s (Same.refl _) (.bl _)
theorem ev_ninLI {i : Int} {xs : List Int} (ha : Ev K ta es (.int i)) (hb : Ev K tb es (.lst (xs.map Dt.int))) : Ev K (tOp (rIn K true) ta tb) es (.bl (!decide (i ∈ xs))) := ev_op ha hb fun F G H σ es x y s rx ry Q q => by
  cases rx
  cases ry with
  | lst h r =>
    obtain rfl := ints_of r
    refine ⟨_, _, rfl, .inl (s.g.seq h), rfl, all_int, ?_⟩
    show Q (.bl (!inV (.int i) (xs.map V.int))) H
    rw [inV_int]
    exact q _ G H s (Same.refl _) (.bl _)
end
/-! ### the law's own promise -/
theorem reps_ofInts {K : PySem.W.Frag} {G : Hp} : ∀ (ns : List Int), Reps K G (ns.map V.int) (ns.map Dt.int)
  | [] => .nil
  | n :: ns => .cons (.int n) (reps_ofInts ns)
theorem law_sp {K : PySem.W.Frag} {f : List Int → Option Bool} {ns : List Int} {a : Addr} {H : Hp} (h : f ns = some true) (hS : SqL K H a (ns.map V.int)) :
    FSpec K (RD fun ds d => ∃ (ns : List Int) (r : Bool), ds = [.lst (ns.map Dt.int)] ∧ f ns = some r ∧ d = .bl r) [.ref a] H (fun v _ => v = .bl true) fun _ _ _ => False :=
  ⟨fun _ => none, H, [.d (.lst (ns.map Dt.int))], .bl true, [.d (.lst (ns.map Dt.int))], stt_data (vs := [.ref a]) (ds := [.lst (ns.map Dt.int)]) (fun _ _ e => nomatch e) (Same.refl _) (fun _ _ e => nomatch e) (.cons (.lst hS (reps_ofInts ns)) .nil),
    ⟨_, rfl, rfl, ns, true, rfl, h, rfl⟩, fun v G' H' _ _ r => by cases r; rfl⟩
end DL

/-! Dl7: list + list, pieces of lists and tuples. -/
namespace L2
open PySem PySem.Spec PyProof.Rows
section
variable {X : Cx}
def rCatG (K : PySem.W.Frag) : R2 := fun x y H Q => ∃ a b xs ys, x = .ref a ∧ y = .ref b ∧ SqL K H a xs ∧ SqL K H b ys ∧ xs.length + ys.length ≤ sizeLine ∧ ∀ p, H p = none → Q (.ref p) (upd H p (.lst (xs ++ ys)))
theorem op_catG : OpR X (binaryOp .Add) (rCatG X.K) := by
  intro pins s σ H x y v u Q I rx ry h
  obtain ⟨a, b, xs, ys, rfl, rfl, ha, hb, hz, q⟩ := h
  cases rx
  cases ry
  obtain ⟨its, r, ht, h1⟩ := I.list ha
  obtain ⟨its2, r2, ht2, h2⟩ := I.list hb
  obtain ⟨⟨cls, dd, data, sl⟩, ho, hc, n, hd⟩ := ht.isList
  obtain ⟨⟨cls2, dd2, data2, sl2⟩, ho2, hc2, n2, hd2⟩ := ht2.isList
  simp only at hc hd hc2 hd2
  subst hc hd hc2 hd2
  have l1 := r.length
  have l2 := r2.length
  refine concat_meets ⟨_, ho, rfl⟩ ⟨_, ho2, rfl⟩ noFill_list_add seq_list_add PySem.F.slot_list_add PySem.F.entry_list_add (PySem.F.args_list_add_2 _ _) (list_addW a b its.toArray its2.toArray n n2 dd dd2 sl sl2 (by rw [List.size_toArray, List.size_toArray]; omega)) ⟨ho, ho2, ?_⟩
  have ea : its.toArray ++ its2.toArray = (its ++ its2).toArray := by simp
  rw [ea]
  exact ⟨.ref _, _, I.lnew (t' := s.toks) (r.append r2) (by rw [List.length_append]; omega), rfl, q _ I.fresh⟩
end
end L2
namespace DL
open PySem L2
section
variable {K : PySem.W.Frag} {es : List Sl} {ta tb te : TE} {d : Dt}
theorem el_catD {d1 d2 : List Dt} (ha : Ev K ta es (.lst d1)) (hb : Ev K tb es (.lst d2)) (hz : d1.length + d2.length ≤ 10000000) : EvL K (tOp (rCatG K) ta tb) es (d1 ++ d2) := fun F G H σ s Q q =>
  ha F G H σ s _ fun x G1 H1 s1 g1 r1 => hb F G1 H1 σ s1 _ fun y G2 H2 s2 g2 r2 => by
    cases r1 with
    | lst h1 q1 =>
      cases r2 with
      | lst h2 q2 =>
        refine ⟨_, _, _, _, rfl, rfl, s2.g.seq (g2.seq h1), s2.g.seq h2, ?_, fun p hp => q p _ G2 _ (s2.prot hp) (s2.fnone hp) (g1.trans g2) ((q1.mono g2).append q2)⟩
        rw [q1.length, q2.length]
        exact Nat.le_trans hz (by decide)
def catC {α : Type} (xs ys : List α) : Option (List α) := if xs.length + ys.length ≤ 10000000 then some (xs ++ ys) else none
theorem el_cat {α : Type} {em : α → Dt} {xs ys zs : List α} (ha : Ev K ta es (.lst (xs.map em))) (hb : Ev K tb es (.lst (ys.map em))) (h : catC xs ys = some zs) : EvL K (tOp (rCatG K) ta tb) es (zs.map em) := by
  unfold catC at h
  split at h
  · rename_i hz
    cases h
    rw [List.map_append]
    exact el_catD ha hb (by rw [List.length_map, List.length_map]; exact hz)
  · cases h
/-! pieces -/
def cutL {α : Type} (xs : List α) (lo hi : Option Int) : List α := (xs.drop (HT.sIx xs.length 0 lo)).take (HT.sIx xs.length xs.length hi - HT.sIx xs.length 0 lo)
theorem cutL_map {α β : Type} (f : α → β) (xs : List α) (lo hi : Option Int) : cutL (xs.map f) lo hi = (cutL xs lo hi).map f := by
  unfold cutL
  rw [List.length_map, List.map_take, List.map_drop]
theorem eo_none : EvO K tNoPart es none := fun F G H σ s Q q => q G H s (Same.refl _)
theorem eo_some {i : Int} (h : Ev K te es (.int i)) : EvO K (tPart te) es (some i) := fun F G H σ s Q q => h F G H σ s _ fun x G1 H1 s1 g1 r1 => by
  cases r1
  exact ⟨i, rfl, q G1 H1 s1 g1⟩
theorem el_cutD {tl th : TO} {lo hi : Option Int} {ds : List Dt} (ha : Ev K te es (.lst ds)) (hl : EvO K tl es lo) (hh : EvO K th es hi) : EvL K (tSl (rSlL K) te tl th) es (cutL ds lo hi) := fun F G H σ s Q q =>
  ha F G H σ s _ fun x G1 H1 s1 g1 r1 => hl F G1 H1 σ s1 _ fun G2 H2 s2 g2 => hh F G2 H2 σ s2 _ fun G3 H3 s3 g3 => by
    cases r1 with
    | lst h r =>
      refine ⟨_, _, rfl, s3.g.seq (g3.seq (g2.seq h)), fun p hp => q p _ G3 _ (s3.prot hp) (s3.fnone hp) (g1.trans (g2.trans g3)) ?_⟩
      have r := (r.mono g2).mono g3
      unfold cutV cutL
      rw [r.length]
      exact (r.drop _).take _
theorem el_cut {α : Type} {em : α → Dt} {tl th : TO} {lo hi : Option Int} {xs : List α} (ha : Ev K te es (.lst (xs.map em))) (hl : EvO K tl es lo) (hh : EvO K th es hi) : EvL K (tSl (rSlL K) te tl th) es ((cutL xs lo hi).map em) := by
  rw [← cutL_map]
  exact el_cutD ha hl hh
end
open PySem PySem.Spec PyProof.Rows in
/-- a field, the part of the program named -/
theorem pe_fldK {X : Cx} {K : PySem.W.Frag} (f : Str) {e : Expr} {ta : TE} {pos : Pos} (he : PE X e ta) (hK : X.K = K) (hb : attributeBase e f X.env (eval e X.env) = eval e X.env) : PE X (.Attribute e f pos) (tFld K ta f) := by
  subst hK
  exact pe_fld he hb
end DL

/-! Dl8: defs with defaults, calls with keywords. -/
namespace DL
open PySem L2
section
variable {P : Program} {w : World} {K : PySem.W.Frag} {mg : Str → Option Value} {base : Heap}
theorem fn_DD {x qual : Str} {st : Stmt} {f : Addr} {fd : FuncData} {N ps : List Str} {k : Nat} {R : List Dt → Dt → Prop} {dvs : List V} {kws : List (Str × V)} (F : FunD K x qual (defArgs st) (defBody st) (defScope st) dvs kws f fd) (S : FnScope N ps (defScope st)) (hl : ∀ ds d, R ds d → ds.length = ps.length)
    (body : ∀ (cdv : Value) (A : Around) (outer : List Env) (s : Shared) (H : Hp) (E : XK), Room k (A.deeper (PyProof.Rows.envOfC qual (defScope st) s.heap.objs.size f cdv)) →
      ∃ t, PSs (cxOf CX0 P w K mg base N qual (defScope st) f cdv A outer s H E).nox (defBody st) t ∧ ∀ ds d, R ds d → ∃ o es, SEv K t (ds.map .d ++ List.replicate (N.length - ps.length) .un) o ∧ Ends2 d es o) :
    FnOk P w K mg base CX0 (k + 1) f fd ps (FSpec K (RD R)) := by
  refine F.ok S (fun vs H Q E h => ?_) (fun cdv A outer s H vs Q E hr h => ?_)
  · obtain ⟨F, G, ss, d, ss', s, ⟨ds, rfl, _, hR⟩, _⟩ := h
    have := s.len
    rw [List.length_map, List.length_map, hl ds d hR] at this
    exact this
  · obtain ⟨t, ht, hb⟩ := body cdv A outer s H E hr
    refine ⟨t, ht.nox, ?_⟩
    obtain ⟨F1, G, ss, d, ss', st1, ⟨ds, rfl, rfl, hR⟩, q⟩ := h
    obtain ⟨o, es, hs, he⟩ := hb ds d hR
    refine hs F1 G H _ _ (stt_start st1 (by rw [List.length_map, hl ds d hR])) (good_end he fun v G' H' σ' s' g r => ?_)
    have rs : Reps K G vs ds := data_of (vs := vs) (ds := ds) (K := K) (F := F1) (G := G) (H := H) (by have := st1.len; simpa using this) st1.sl
    exact q v G' H' (stt_data s'.f s'.g s'.dj (rs.mono g)) g r
theorem fn_ID {x qual : Str} {st : Stmt} {f : Addr} {fd : FuncData} {N ps : List Str} {k : Nat} {C : Addr} {R : List Dt → List (Str × Dt) → Prop} {dvs : List V} {kws : List (Str × V)} (F : FunD K x qual (defArgs st) (defBody st) (defScope st) dvs kws f fd) (S : FnScope N ps (defScope st)) (hl : ∀ ds d, R ds d → ds.length + 1 = ps.length)
    (body : ∀ (cdv : Value) (A : Around) (outer : List Env) (s : Shared) (H : Hp) (E : XK), Room k (A.deeper (PyProof.Rows.envOfC qual (defScope st) s.heap.objs.size f cdv)) →
      ∃ t, PSs (cxOf CX0 P w K mg base N qual (defScope st) f cdv A outer s H E).nox (defBody st) t ∧ ∀ p ds fs, R ds fs → ∃ o es, SEv K t (.obo (some p) C [] :: ds.map .d ++ List.replicate (N.length - ps.length) .un) o ∧ Ends2 .non (.obo (some p) C fs :: es) o) :
    FnOk P w K mg base CX0 (k + 1) f fd ps (FSpec K (RI C R)) := by
  refine F.ok S (fun vs H Q E h => ?_) (fun cdv A outer s H vs Q E hr h => ?_)
  · obtain ⟨F, G, ss, d, ss', s, ⟨p, ds, fs, rfl, _, _, hR⟩, _⟩ := h
    have := s.len
    rw [List.length_map, List.length_cons, List.length_map, hl ds fs hR] at this
    exact this
  · obtain ⟨t, ht, hb⟩ := body cdv A outer s H E hr
    refine ⟨t, ht.nox, ?_⟩
    obtain ⟨F1, G, ss, d, ss', st1, ⟨p, ds, fs, rfl, rfl, rfl, hR⟩, q⟩ := h
    obtain ⟨o, es, hs, he⟩ := hb p ds fs hR
    refine hs F1 G H _ _ (stt_start st1 (by rw [List.length_cons, List.length_map, hl ds fs hR])) (good_end he fun v G' H' σ' s' g r => ?_)
    cases vs with
    | nil =>
      have := st1.len
      simp at this
    | cons v0 vs =>
      obtain ⟨o0, ho0, p0, dx0, fv0, e0, g0, f0, h0, r0, a0⟩ := st1.sl 0 _ rfl
      cases ho0
      cases e0
      obtain rfl := a0 p rfl
      obtain ⟨o1, ho1, p1, dx1, fv1, e1, g1, f1, h1, r1, a1⟩ := s'.sl 0 _ rfl
      subst e1
      obtain rfl := a1 _ rfl
      have rs : Reps K G vs ds := data_of (vs := vs) (ds := ds) (K := K) (F := F1) (G := G) (H := H) (by have := st1.len; simpa using this) fun i t e => st1.sl (i + 1) t e
      have base := stt_data s'.f s'.g s'.dj (rs.mono g)
      refine q v G' H' ⟨base.f, base.g, base.dj, by rw [List.map_cons, List.length_cons, List.length_cons, base.len], fun i t e => ?_, fun i j t u nij ei ej hi hj => ?_⟩ g r
      · cases i with
        | zero =>
          cases e
          exact ⟨_, rfl, p, dx1, fv1, rfl, g1, f1, h1, r1, a1⟩
        | succ i => exact base.sl i t e
      · have no : ∀ (k : Nat) z, ((ds.map Sl.d))[k]? = some z → z.isOwn = true → False := fun k z e h => by
          rw [List.getElem?_map] at e
          cases q : ds[k]? with
          | none => rw [q] at e; cases e
          | some d => rw [q] at e; cases e; cases h
        cases i with
        | zero =>
          cases j with
          | zero => exact absurd rfl nij
          | succ j => exact (no j u ej hj).elim
        | succ i => exact (no i t ei hi).elim
end
section
variable {K : PySem.W.Frag} {es : List Sl} {ta tk : TA} {E : XK}
def tPermA (n m : Nat) (fV : List V → List V → List V) (t tk : TA) : TA := fun σ H Q => t σ H fun vs H1 => tk σ H1 fun zs H2 => vs.length = n ∧ zs.length = m ∧ Q (fV vs zs) H2
theorem ea_perm {n m : Nat} {fV : List V → List V → List V} {ds ks ds' : List Dt} (ha : EvA K ta es ds) (hk : EvA K tk es ks) (hn : ds.length = n) (hm : ks.length = m) (hf : ∀ G vs zs, Reps K G vs ds → Reps K G zs ks → Reps K G (fV vs zs) ds') : EvA K (tPermA n m fV ta tk) es ds' := fun F G H σ s Q q =>
  ha F G H σ s _ fun vs G1 H1 s1 g1 r1 => hk F G1 H1 σ s1 _ fun zs G2 H2 s2 g2 r2 => ⟨by rw [r1.length, hn], by rw [r2.length, hm], q _ G2 H2 s2 (g1.trans g2) (hf G2 vs zs (r1.mono g2) r2)⟩
/-- C(.., k = v, ..) -/
theorem ev_makeK {P : List Dt → List (Str × Dt) → Prop} {C : Addr} {fs : List (Str × Dt)} {n m : Nat} {fV gV : List V → List V → List V} {ds ks ds' : List Dt} (ha : EvA K ta es ds) (hk : EvA K tk es ks) (hn : ds.length = n) (hm : ks.length = m)
    (hg : ∀ x vs zs, vs.length = n → zs.length = m → gV (.ref x :: vs) zs = .ref x :: fV vs zs) (hf : ∀ G vs zs, Reps K G vs ds → Reps K G zs ks → Reps K G (fV vs zs) ds') (hP : P ds' fs) : Ev K (tMakeK C n m (FSpec K (RI C P)) gV E ta tk) es (.obj C fs) := fun F G H σ s Q q => by
  have h2 := ev_make (E := E) (ea_perm ha hk hn hm hf) hP F G H σ s Q q
  have e : tMake C (FSpec K (RI C P)) [] E (tPermA n m fV ta tk) σ H Q = tMakeK C n m (FSpec K (RI C P)) gV E ta tk σ H Q := by
    unfold tMake tMakeK tPermA
    refine congrArg (ta σ H) (funext fun vs => funext fun H1 => congrArg (tk σ H1) (funext fun zs => funext fun H2 => propext ?_))
    constructor
    · rintro ⟨a, b, c⟩
      refine ⟨a, b, fun x dx h1 h2 h3 => ?_⟩
      have := c x dx h1 h2 h3
      rw [List.append_nil] at this
      rw [hg x vs zs a b]
      exact this
    · rintro ⟨a, b, c⟩
      refine ⟨a, b, fun x dx h1 h2 h3 => ?_⟩
      have := c x dx h1 h2 h3
      rw [hg x vs zs a b] at this
      rw [List.append_nil]
      exact this
  exact e ▸ h2
end
/-! facts of keyword-only defaults -/
def KwL (K : PySem.W.Frag) (D : Addr) (kws : List (Str × V)) : Prop := ∀ q ∈ kws, ∃ u, PySem.W.nsIn K D q.1 = some (some u) ∧ RelV q.2 u
theorem kwl_nil {K : PySem.W.Frag} {D : Addr} : KwL K D [] := fun _ h => nomatch h
theorem kwl_cons {K : PySem.W.Frag} {D : Addr} {n : Str} {v : V} {u : Value} {kws : List (Str × V)} (h : PySem.W.nsIn K D n = some (some u)) (r : RelV v u) (t : KwL K D kws) : KwL K D ((n, v) :: kws) := fun q hq => by
  rcases List.mem_cons.mp hq with rfl | hq
  · exact ⟨u, h, r⟩
  · exact t q hq
theorem relI {i : Int} {t : Tok} : RelV (.int i) (.int i t) := ⟨t, rfl⟩
theorem relN : RelV .non .none := rfl
theorem relB {b : Bool} : RelV (.bl b) (.bool b) := rfl
open PyProof.Rows in
/-- a def with keyword-only defaults, as it stands -/
theorem fund_mk {K : PySem.W.Frag} {x qual : Str} {st : Stmt} {f D : Addr} {oc : Value} {od an : Option Addr} {osl : Array (Option Value)} {doc pm cdv ct : Value} {kws : List (Str × V)}
    (l : K.lookup f = some ⟨oc, od, .func (PySem.W.fnOf x qual (defArgs st) (defBody st) (defScope st) .none (.ref D) doc pm an cdv ct), osl⟩)
    (c : PySem.W.codeIn K cdv qual = true) (k : PySem.W.keepIn K (.ref f) = true) (q : KwL K D kws) : FunD K x qual (defArgs st) (defBody st) (defScope st) [] kws f (PySem.W.fnOf x qual (defArgs st) (defBody st) (defScope st) .none (.ref D) doc pm an cdv ct) :=
  ⟨⟨oc, od, .none, .ref D, doc, pm, an, cdv, ct, osl, rfl, l, c, .inl ⟨rfl, rfl⟩, .inr ⟨D, rfl, q⟩⟩, k⟩
/-! a default that is an empty tuple of the world -/
theorem relR {a : Addr} : RelV (.ref a) (.ref a) := rfl
theorem tup0_mk {K : PySem.W.Frag} {a : Addr} {od : Option Addr} {its : Array Value} {n : Nat} {sl : Array (Option Value)} (l : K.lookup a = some ⟨.type "tuple", od, .seq its n, sl⟩) (hz : its = #[]) : ∀ G : Hp, Rep K G (.ref a) (.tup []) := fun G => by
  subst hz
  exact .tup (.inr ⟨_, _, n, l, rfl, rfl, by decide, .nil⟩) .nil
end DL

/-! Dl9: chains of four operands, slots set aside, ranges downward, tuple + tuple, calls with keywords. -/
namespace L2
open PySem PySem.Spec PyProof.Rows
section
variable {X : Cx} {a b c d : Expr} {ta tb tc td : TE} {pos : Pos}
def tChain3 (r r' r'' : R2) (ta tb tc td : TE) : TE := fun σ H Q => ta σ H fun x H1 => tb σ H1 fun y H2 => r x y H2 fun z H3 => ∃ k, z = .bl k ∧
  (if k = true then tc σ H3 fun w H4 => r' y w H4 fun z2 H5 => ∃ k2, z2 = .bl k2 ∧ (if k2 = true then td σ H5 fun u H6 => r'' w u H6 Q else Q (.bl false) H5) else Q (.bl false) H3)
theorem pe_chain3 {op op' op'' : CmpOp} {r r' r'' : R2} (ho : OpR X (compareOp op) r) (ho' : OpR X (compareOp op') r') (ho'' : OpR X (compareOp op'') r'') (ha : PE X a ta) (hb : PE X b tb) (hc : PE X c tc) (hd : PE X d td)
    (hm : lastMarks [op, op', op''] [b, c, d] = false := by with_unfolding_all rfl) : PE X (.Compare a [op, op', op''] [b, c, d] pos) (tChain3 r r' r'' ta tb tc td) := by
  refine ⟨fun pins s σ H Q I h => ?_⟩
  refine Compare_chain (thn (ha.run pins s σ H _ I h) fun v s1 ⟨x, H1, I1, r1, q1⟩ => chain_link (thn (hb.run pins s1 σ H1 _ I1 q1) fun u s2 ⟨y, H2, I2, r2, q2⟩ =>
    thn (ho pins s2 σ H2 x y v u _ I2 r1 r2 q2) fun d s3 ⟨z, H3, I3, r3, k, e, q3⟩ => ?_)) hm
  subst e
  cases r3
  refine wpAny_truthy_bool ?_
  cases k with
  | false => exact ite_ff ⟨.bl false, H3, I3, rfl, q3⟩
  | true =>
    refine ite_tt (chain_link (thn (hc.run pins s3 σ H3 _ I3 q3) fun w s4 ⟨z', H4, I4, r4, q4⟩ => thn (ho' pins s4 σ H4 y z' u w _ I4 r2 r4 q4) fun d' s5 ⟨z2, H5, I5, r5, k2, e2, q5⟩ => ?_))
    subst e2
    cases r5
    refine wpAny_truthy_bool ?_
    cases k2 with
    | false => exact ite_ff ⟨.bl false, H5, I5, rfl, q5⟩
    | true => exact ite_tt (chain_last (thn (hd.run pins s5 σ H5 _ I5 q5) fun w' s6 ⟨z'', H6, I6, r6, q6⟩ => ho'' pins s6 σ H6 z' z'' w w' Q I6 r4 r6 q6))
theorem pt_chain3 {op op' op'' : CmpOp} {r r' r'' : R2} (ho : OpR X (compareOp op) r) (ho' : OpR X (compareOp op') r') (ho'' : OpR X (compareOp op'') r'') (ha : PE X a ta) (hb : PE X b tb) (hc : PE X c tc) (hd : PE X d td)
    (hm : lastMarks [op, op', op''] [b, c, d] = false := by with_unfolding_all rfl) : PT X (.Compare a [op, op', op''] [b, c, d] pos) (tTest (tChain3 r r' r'' ta tb tc td)) := by
  refine ⟨fun pins s σ H Q I h => ?_⟩
  refine isTrue_chain (thn (ha.run pins s σ H _ I h) fun v s1 ⟨x, H1, I1, r1, q1⟩ => test_link (thn (hb.run pins s1 σ H1 _ I1 q1) fun u s2 ⟨y, H2, I2, r2, q2⟩ =>
    thn (ho pins s2 σ H2 x y v u _ I2 r1 r2 q2) fun d s3 ⟨z, H3, I3, r3, k, e, q3⟩ => ?_)) hm
  subst e
  cases r3
  refine wpAny_truthy_bool ?_
  cases k with
  | false =>
    obtain ⟨k', e', q'⟩ := q3
    cases e'
    exact ite_ff ⟨H3, I3, q'⟩
  | true =>
    refine ite_tt (test_link (thn (hc.run pins s3 σ H3 _ I3 q3) fun w s4 ⟨z', H4, I4, r4, q4⟩ => thn (ho' pins s4 σ H4 y z' u w _ I4 r2 r4 q4) fun d' s5 ⟨z2, H5, I5, r5, k2, e2, q5⟩ => ?_))
    subst e2
    cases r5
    refine wpAny_truthy_bool ?_
    cases k2 with
    | false =>
      obtain ⟨k', e', q'⟩ := q5
      cases e'
      exact ite_ff ⟨H5, I5, q'⟩
    | true =>
      refine ite_tt (test_last (thn (hd.run pins s5 σ H5 _ I5 q5) fun w' s6 ⟨z'', H6, I6, r6, q6⟩ => thn (ho'' pins s6 σ H6 z' z'' w w' _ I6 r4 r6 q6) fun d'' s7 ⟨z3, H7, I7, r7, k3, e3, q7⟩ => ?_))
      subst e3
      cases r7
      exact wpAny_truthy_bool ⟨H7, I7, q7⟩
def tChain4 (r r' r'' r3 : R2) (ta tb tc td te : TE) : TE := fun σ H Q => ta σ H fun x H1 => tb σ H1 fun y H2 => r x y H2 fun z H3 => ∃ k, z = .bl k ∧
  (if k = true then tc σ H3 fun w H4 => r' y w H4 fun z2 H5 => ∃ k2, z2 = .bl k2 ∧ (if k2 = true then td σ H5 fun u H6 => r'' w u H6 fun z3 H7 => ∃ k3, z3 = .bl k3 ∧ (if k3 = true then te σ H7 fun m H8 => r3 u m H8 Q else Q (.bl false) H7) else Q (.bl false) H5) else Q (.bl false) H3)
theorem pt_chain4 {e : Expr} {te : TE} {op op' op'' op3 : CmpOp} {r r' r'' r3 : R2} (ho : OpR X (compareOp op) r) (ho' : OpR X (compareOp op') r') (ho'' : OpR X (compareOp op'') r'') (ho3 : OpR X (compareOp op3) r3) (ha : PE X a ta) (hb : PE X b tb) (hc : PE X c tc) (hd : PE X d td) (he : PE X e te)
    (hm : lastMarks [op, op', op'', op3] [b, c, d, e] = false := by with_unfolding_all rfl) : PT X (.Compare a [op, op', op'', op3] [b, c, d, e] pos) (tTest (tChain4 r r' r'' r3 ta tb tc td te)) := by
  refine ⟨fun pins s σ H Q I h => ?_⟩
  refine isTrue_chain (thn (ha.run pins s σ H _ I h) fun v s1 ⟨x, H1, I1, r1, q1⟩ => test_link (thn (hb.run pins s1 σ H1 _ I1 q1) fun u s2 ⟨y, H2, I2, r2, q2⟩ =>
    thn (ho pins s2 σ H2 x y v u _ I2 r1 r2 q2) fun d s3 ⟨z, H3, I3, rr3, k, e, q3⟩ => ?_)) hm
  subst e
  cases rr3
  refine wpAny_truthy_bool ?_
  cases k with
  | false =>
    obtain ⟨k', e', q'⟩ := q3
    cases e'
    exact ite_ff ⟨H3, I3, q'⟩
  | true =>
    refine ite_tt (test_link (thn (hc.run pins s3 σ H3 _ I3 q3) fun w s4 ⟨z', H4, I4, r4, q4⟩ => thn (ho' pins s4 σ H4 y z' u w _ I4 r2 r4 q4) fun d' s5 ⟨z2, H5, I5, r5, k2, e2, q5⟩ => ?_))
    subst e2
    cases r5
    refine wpAny_truthy_bool ?_
    cases k2 with
    | false =>
      obtain ⟨k', e', q'⟩ := q5
      cases e'
      exact ite_ff ⟨H5, I5, q'⟩
    | true =>
      refine ite_tt (test_link (thn (hd.run pins s5 σ H5 _ I5 q5) fun w' s6 ⟨z'', H6, I6, r6, q6⟩ => thn (ho'' pins s6 σ H6 z' z'' w w' _ I6 r4 r6 q6) fun d'' s7 ⟨z3, H7, I7, r7, k3, e3, q7⟩ => ?_))
      subst e3
      cases r7
      refine wpAny_truthy_bool ?_
      cases k3 with
      | false =>
        obtain ⟨k', e', q'⟩ := q7
        cases e'
        exact ite_ff ⟨H7, I7, q'⟩
      | true =>
        refine ite_tt (test_last (thn (he.run pins s7 σ H7 _ I7 q7) fun w2 s8 ⟨z4, H8, I8, r8, q8⟩ => thn (ho3 pins s8 σ H8 z'' z4 w' w2 _ I8 r6 r8 q8) fun d3 s9 ⟨z5, H9, I9, r9, k4, e4, q9⟩ => ?_))
        subst e4
        cases r9
        exact wpAny_truthy_bool ⟨H9, I9, q9⟩
end
end L2
namespace DL
open PySem L2
section
variable {K : PySem.W.Frag} {es es' : List Sl} {ta tb tc td te : TE} {d : Dt}
theorem ev_chain3 {r r' r'' : R2} {a b c e : Dt} {x y z : Bool} (ha : Ev K ta es a) (hb : Ev K tb es b) (hr : R2D K r a b (.bl x)) (hc : Ev K tc es c) (hr' : R2D K r' b c (.bl y)) (hd : Ev K td es e) (hr'' : R2D K r'' c e (.bl z)) :
    Ev K (tChain3 r r' r'' ta tb tc td) es (.bl (x && (y && z))) := fun F G H σ s Q q =>
  ha F G H σ s _ fun v1 G1 H1 s1 g1 r1 => hb F G1 H1 σ s1 _ fun v2 G2 H2 s2 g2 r2 => hr F G2 H2 σ es v1 v2 s2 (r1.mono g2) r2 _ fun z1 G3 H3 s3 g3 r3 => by
    cases r3
    refine ⟨x, rfl, ?_⟩
    cases x with
    | false => exact q _ G3 H3 s3 (g1.trans (g2.trans g3)) (.bl _)
    | true =>
      show tc σ H3 _
      refine hc F G3 H3 σ s3 _ fun v4 G4 H4 s4 g4 r4 => hr' F G4 H4 σ es v2 v4 s4 ((r2.mono g3).mono g4) r4 _ fun z2 G5 H5 s5 g5 r5 => ?_
      cases r5
      refine ⟨y, rfl, ?_⟩
      have gg := g1.trans (g2.trans (g3.trans (g4.trans g5)))
      cases y with
      | false => exact q _ G5 H5 s5 gg (.bl _)
      | true =>
        show td σ H5 _
        exact hd F G5 H5 σ s5 _ fun v6 G6 H6 s6 g6 r6 => hr'' F G6 H6 σ es v4 v6 s6 ((r4.mono g5).mono g6) r6 Q fun v7 G7 H7 s7 g7 r7 => q v7 G7 H7 s7 (gg.trans (g6.trans g7)) r7
theorem ev_chain4 {r r' r'' r3 : R2} {tf : TE} {a b c e f : Dt} {x y z u : Bool} (ha : Ev K ta es a) (hb : Ev K tb es b) (hr : R2D K r a b (.bl x)) (hc : Ev K tc es c) (hr' : R2D K r' b c (.bl y)) (hd : Ev K td es e) (hr'' : R2D K r'' c e (.bl z)) (hf : Ev K tf es f) (hr3 : R2D K r3 e f (.bl u)) :
    Ev K (tChain4 r r' r'' r3 ta tb tc td tf) es (.bl (x && (y && (z && u)))) := fun F G H σ s Q q =>
  ha F G H σ s _ fun v1 G1 H1 s1 g1 r1 => hb F G1 H1 σ s1 _ fun v2 G2 H2 s2 g2 r2 => hr F G2 H2 σ es v1 v2 s2 (r1.mono g2) r2 _ fun z1 G3 H3 s3 g3 r3 => by
    cases r3
    refine ⟨x, rfl, ?_⟩
    cases x with
    | false => exact q _ G3 H3 s3 (g1.trans (g2.trans g3)) (.bl _)
    | true =>
      show tc σ H3 _
      refine hc F G3 H3 σ s3 _ fun v4 G4 H4 s4 g4 r4 => hr' F G4 H4 σ es v2 v4 s4 ((r2.mono g3).mono g4) r4 _ fun z2 G5 H5 s5 g5 r5 => ?_
      cases r5
      refine ⟨y, rfl, ?_⟩
      have gg := g1.trans (g2.trans (g3.trans (g4.trans g5)))
      cases y with
      | false => exact q _ G5 H5 s5 gg (.bl _)
      | true =>
        show td σ H5 _
        refine hd F G5 H5 σ s5 _ fun v6 G6 H6 s6 g6 r6 => hr'' F G6 H6 σ es v4 v6 s6 ((r4.mono g5).mono g6) r6 _ fun v7 G7 H7 s7 g7 r7 => ?_
        cases r7
        refine ⟨z, rfl, ?_⟩
        have g3 := gg.trans (g6.trans g7)
        cases z with
        | false => exact q _ G7 H7 s7 g3 (.bl _)
        | true =>
          show tf σ H7 _
          exact hf F G7 H7 σ s7 _ fun v8 G8 H8 s8 g8 r8 => hr3 F G8 H8 σ es v6 v8 s8 ((r6.mono g7).mono g8) r8 Q fun v9 G9 H9 s9 g9 r9 => q v9 G9 H9 s9 (g3.trans (g8.trans g9)) r9
/-! slots set aside -/
def hideS (es : List Sl) : List Sl := es.map fun s => match s.isOwn with
  | true => .un
  | false => s
theorem Stt.hide {F G H : Hp} {σ : L2.St} (s : Stt K F G H σ es) : Stt K (DL.rem G H) G H σ (hideS es) where
  f := s.rem.1
  g := s.g
  dj := s.rem.2
  len := by unfold hideS; rw [List.length_map]; exact s.len
  sl := fun i t e => by
    unfold hideS at e
    rw [List.getElem?_map] at e
    cases q : es[i]? with
    | none => rw [q] at e; cases e
    | some u =>
      rw [q] at e
      cases e
      obtain ⟨x, hx, k⟩ := s.sl i u q
      refine ⟨x, hx, ?_⟩
      cases u with
      | un => trivial
      | d y => exact k
      | own _ _ => trivial
      | obo _ _ _ => trivial
  ow := fun i j t u _ ei _ hi _ => by
    unfold hideS at ei
    rw [List.getElem?_map] at ei
    cases q : es[i]? with
    | none => rw [q] at ei; cases ei
    | some u =>
      rw [q] at ei
      cases ei
      cases u <;> cases hi
theorem ev_hide (e : hideS es = es') (h : Ev K te es' d) : Ev K te es d := by
  subst e
  exact fun F G H σ s Q q => h (DL.rem G H) G H σ s.hide Q fun v G1 H1 s1 g1 r1 => q v G1 H1 (s.after s1.f s1.g s1.dj g1) g1 r1
theorem Stt.afterL {F G H G1 H1 : Hp} {σ : L2.St} (s : Stt K F G H σ es) {p : Addr} {vs : List V} (sf : Same (upd (DL.rem G H) p (.lst vs)) H1) (sg : Same G1 H1) (sd : ∀ a o, upd (DL.rem G H) p (.lst vs) a = some o → G1 a = none) (hp : DL.rem G H p = none) (g1 : Same G G1) :
    Stt K (upd F p (.lst vs)) G1 H1 σ es ∧ F p = none := by
  have up : ∀ a o, F a = some o → DL.rem G H a = some o := fun a o e => by rw [rem_of (s.dj a o e)]; exact s.f a o e
  have ne : ∀ a o, DL.rem G H a = some o → a ≠ p := fun a o e z => by subst z; rw [hp] at e; cases e
  have fp : F p = none := not_some fun o e => by
    have := up p o e
    rw [hp] at this
    cases this
  have gp : G1 p = none := sd p _ upd_same
  refine ⟨⟨fun a u e => ?_, sg, fun a u e => ?_, s.len, fun i t e => ?_, s.ow⟩, fp⟩
  · by_cases z : a = p
    · subst z
      rw [upd_same] at e
      exact sf a u (by rw [upd_same]; exact e)
    · rw [upd_ne z] at e
      exact sf a u (by rw [upd_ne z]; exact up a u e)
  · by_cases z : a = p
    · subst z
      exact gp
    · rw [upd_ne z] at e
      exact sd a u (by rw [upd_ne z]; exact up a u e)
  · obtain ⟨x, hx, k⟩ := s.sl i t e
    refine ⟨x, hx, k.grow g1 (fun q u hg _ hu => ?_) fun q hg ⟨u, hu⟩ hf => ?_⟩
    · have hq : DL.rem G H q = some u := by rw [rem_of hg]; exact hu
      exact sf q u (by rw [upd_ne (ne q u hq)]; exact hq)
    · have hq : DL.rem G H q = some u := by rw [rem_of hg]; exact hu
      exact ⟨sd q u (by rw [upd_ne (ne q u hq)]; exact hq), by rw [upd_ne (ne q u hq)]; exact hf⟩
theorem el_hide {ds : List Dt} (e : hideS es = es') (h : EvL K te es' ds) : EvL K te es ds := by
  subst e
  refine fun F G H σ s Q q => h (DL.rem G H) G H σ s.hide Q fun p vs G1 H1 s1 hp g1 r1 => ?_
  obtain ⟨a, b⟩ := s.afterL s1.f s1.g s1.dj hp g1
  exact q p vs G1 H1 a b g1 r1
/-! ranges downward -/
def rngD (lo hi : Int) : List Int := (List.range (lo - hi).toNat).map fun (i : Nat) => lo - (i : Int)
def rngDC (lo hi : Int) : Option (List Int) := if -(2 ^ 62) ≤ lo ∧ lo < 2 ^ 62 ∧ -(2 ^ 62) ≤ hi ∧ hi < 2 ^ 62 then some (rngD lo hi) else none
theorem yields_rngD {G : Hp} {lo : Int} {n : Nat} : Yields K (Itc lo (-1) n) G (((List.range n).map fun (i : Nat) => lo - (i : Int)).map Dt.int) := fun i F G1 H1 σ es g s => by
  refine ⟨fun d e => ?_, fun e => by rw [List.length_map, List.length_map, List.length_range] at e; exact e⟩
  rw [List.getElem?_map, List.getElem?_map] at e
  by_cases hi : i < n
  · rw [List.getElem?_range hi] at e
    cases e
    refine ⟨hi, fun x H2 y => ?_⟩
    obtain ⟨e1, e2⟩ := y
    subst e1 e2
    have : lo + (i : Int) * (-1) = lo - (i : Int) := by omega
    rw [this]
    exact ⟨G1, s, Same.refl _, .int _⟩
  · rw [List.getElem?_eq_none (by simpa using hi)] at e
    cases e
theorem ei_rngD {ta : TA} {lo hi : Int} {xs : List Int} (h : EvA K ta es [.int lo, .int hi, .int (-1)]) (e : rngDC lo hi = some xs) : EvI K (iRng3 ta) es (xs.map Dt.int) := fun F G H σ s R q => h F G H σ s _ fun vs G1 H1 s1 g1 r1 => by
  obtain ⟨⟨a1, a2, a3, a4⟩, e⟩ := ite_some e
  subst e
  cases r1 with
  | cons ra rr =>
    cases ra
    cases rr with
    | cons rb rr =>
      cases rb
      cases rr with
      | cons rc rr =>
        cases rc
        cases rr
        exact ⟨lo, hi, -1, _, rfl, RgC.neg a1 a2 a3 a4, q _ G1 H1 s1 g1 yields_rngD⟩
/-! tuple + tuple -/
theorem ev_catT {d1 d2 : List Dt} (ha : Ev K ta es (.tup d1)) (hb : Ev K tb es (.tup d2)) (hz : d1.length + d2.length ≤ 10000000) : Ev K (tOp (rCatA K) ta tb) es (.tup (d1 ++ d2)) := fun F G H σ s Q q =>
  ha F G H σ s _ fun x G1 H1 s1 g1 r1 => hb F G1 H1 σ s1 _ fun y G2 H2 s2 g2 r2 => by
    cases r1 with
    | tup h1 q1 =>
      cases r2 with
      | tup h2 q2 =>
        have q1 := q1.mono g2
        refine ⟨_, _, _, _, rfl, rfl, sqT_mono s2.g (sqT_mono g2 h1), sqT_mono s2.g h2, ?_, fun e => ?_, fun _ e => ?_, fun _ _ p hp => ?_⟩
        · rw [q1.length, q2.length]
          exact Nat.le_trans hz (by decide)
        · subst e
          cases q1
          exact q _ G2 H2 s2 (g1.trans g2) (.tup h2 q2)
        · subst e
          cases q2
          refine q _ G2 H2 s2 (g1.trans g2) ?_
          rw [List.append_nil]
          exact .tup (sqT_mono g2 h1) q1
        · have hg := s2.gnone hp
          exact q _ _ _ (s2.new hp) (g1.trans (g2.trans (same_upd hg))) (.tup (.inl (.inl upd_same)) ((q1.append q2).mono (same_upd hg)))
theorem ev_catTm {α : Type} {em : α → Dt} {xs ys zs : List α} (ha : Ev K ta es (.tup (xs.map em))) (hb : Ev K tb es (.tup (ys.map em))) (h : catC xs ys = some zs) : Ev K (tOp (rCatA K) ta tb) es (.tup (zs.map em)) := by
  unfold catC at h
  split at h
  · rename_i hz
    cases h
    rw [List.map_append]
    exact ev_catT ha hb (by rw [List.length_map, List.length_map]; exact hz)
  · cases h
end
section
variable {K : PySem.W.Frag} {es : List Sl} {ta tk : TA} {E : XK}
/-- f(.., k = v, ..) -/
theorem ev_callK {P : List Dt → Dt → Prop} {d : Dt} {n m : Nat} {fV : List V → List V → List V} {ds ks ds' : List Dt} (ha : EvA K ta es ds) (hk : EvA K tk es ks) (hn : ds.length = n) (hm : ks.length = m)
    (hf : ∀ G vs zs, Reps K G vs ds → Reps K G zs ks → Reps K G (fV vs zs) ds') (hP : P ds' d) : Ev K (tCallN n m (FSpec K (RD P)) fV E ta tk) es d := fun F G H σ s Q q => by
  have h2 := ev_call (E := E) (ea_perm ha hk hn hm hf) hP F G H σ s Q q
  have e : tCall (FSpec K (RD P)) [] E (tPermA n m fV ta tk) σ H Q = tCallN n m (FSpec K (RD P)) fV E ta tk σ H Q := by
    unfold tCall tCallN tPermA
    refine congrArg (ta σ H) (funext fun vs => funext fun H1 => congrArg (tk σ H1) (funext fun zs => funext fun H2 => ?_))
    show (_ ∧ _ ∧ FSpec K (RD P) (fV vs zs ++ []) H2 Q E) = _
    rw [List.append_nil]
  exact e ▸ h2
end
/-! defs that hand back a new list -/
section
variable {K : PySem.W.Frag} {es fs : List Sl} {te : TE} {tz : TS} {ds : List Dt}
theorem sev_rtL (h : EvL K te es ds) (w : Wk es fs) : SEv K (tSeq (tRet te) tz) es (.rl ds fs) := fun F G H σ D s q => h F G H σ s _ fun p vs G1 H1 s1 hF g1 r1 => q p vs G1 H1 σ (s1.wk w) hF g1 r1
theorem Stt.leave {F G H : Hp} {σ : L2.St} {i : Nat} {p : Addr} {vs : List V} {t : Sl} (s : Stt K F G H σ es) (hi : es[i]? = some t) (ht : t.isOwn = true) (ho : σ[i]? = some (some (.ref p))) (hp : H p = some (.lst vs)) (gp : G p = none) : Stt K (upd F p (.lst vs)) G H σ (es.set i .un) where
  f := fun a u e => by
    by_cases z : a = p
    · subst z
      rw [upd_same] at e
      exact hp.trans e
    · rw [upd_ne z] at e
      exact s.f a u e
  g := s.g
  dj := fun a u e => by
    by_cases z : a = p
    · subst z
      exact gp
    · rw [upd_ne z] at e
      exact s.dj a u e
  len := by rw [List.length_set]; exact s.len
  sl := fun j u e => by
    by_cases q : i = j
    · subst q
      have hj : i < es.length := (List.getElem?_eq_some_iff.mp hi).1
      rw [List.getElem?_set_self hj] at e
      cases e
      exact ⟨_, ho, trivial⟩
    · rw [List.getElem?_set_ne q] at e
      obtain ⟨x, hx, k⟩ := s.sl j u e
      refine ⟨x, hx, ?_⟩
      cases u with
      | un => trivial
      | d y => exact k
      | own a xs =>
        obtain ⟨p', vs', e', g', f', hp', r', an'⟩ := k
        have ne : p' ≠ p := fun z => s.ow i j t _ q hi e ht rfl (by rw [ho, hx, e', z])
        exact ⟨p', vs', e', g', by rw [upd_ne ne]; exact f', hp', r', an'⟩
      | obo a C fs =>
        obtain ⟨p', dx', vs', e', g', f', hp', r', an'⟩ := k
        have ne : p' ≠ p := fun z => s.ow i j t _ q hi e ht rfl (by rw [ho, hx, e', z])
        exact ⟨p', dx', vs', e', g', by rw [upd_ne ne]; exact f', hp', r', an'⟩
  ow := fun a b u w ne ea eb ha hb => by
    have no : ∀ (k : Nat) (z : Sl), (es.set i Sl.un)[k]? = some z → z.isOwn = true → es[k]? = some z := fun k z e h => by
      by_cases q : i = k
      · subst q
        have hj : i < es.length := (List.getElem?_eq_some_iff.mp hi).1
        rw [List.getElem?_set_self hj] at e
        cases e
        cases h
      · rwa [List.getElem?_set_ne q] at e
    exact s.ow a b u w ne (no a u ea ha) (no b w eb hb) ha hb
theorem sev_rtO {i : Nat} {a : Option Addr} (hi : es[i]? = some (.own a ds)) (w : Wk (es.set i .un) fs) : SEv K (tSeq (tRet (tVar i)) tz) es (.rl ds fs) := fun F G H σ D s q => by
  obtain ⟨o, ho, p, vs, eo, g, f, hp, rr, an⟩ := s.sl i _ hi
  subst eo
  exact ⟨.ref p, ho, q p vs G H σ ((s.leave hi rfl ho hp g).wk w) f (Same.refl _) rr⟩
/-- all arguments data, a new list handed back -/
def FSpecL (K : PySem.W.Frag) (R : List Dt → List Dt → Prop) : Sp := fun vs H Q _ => ∃ F G ds xs, Stt K F G H (vs.map some) (ds.map .d) ∧ R ds xs ∧
  ∀ p ws G' H', Stt K (upd F p (.lst ws)) G' H' (vs.map some) (ds.map .d) → F p = none → Same G G' → Reps K G' ws xs → Q (.ref p) H'
theorem fn_L {P : Program} {w : World} {mg : Str → Option Value} {base : Heap} {x qual : Str} {st : Stmt} {f : Addr} {fd : FuncData} {N ps : List Str} {k : Nat} {R : List Dt → List Dt → Prop} (F : Fun K x qual st f fd) (S : FnScope N ps (defScope st)) (hl : ∀ ds d, R ds d → ds.length = ps.length)
    (body : ∀ (cdv : Value) (A : Around) (outer : List Env) (s : Shared) (H : Hp) (E : XK), Room k (A.deeper (PyProof.Rows.envOfC qual (defScope st) s.heap.objs.size f cdv)) →
      ∃ t, PSs (cxOf CX0 P w K mg base N qual (defScope st) f cdv A outer s H E).nox (defBody st) t ∧ ∀ ds xs, R ds xs → ∃ es, SEv K t (ds.map .d ++ List.replicate (N.length - ps.length) .un) (.rl xs es)) :
    FnOk P w K mg base CX0 (k + 1) f fd ps (FSpecL K R) := by
  refine F.ok S (fun vs H Q E h => ?_) (fun cdv A outer s H vs Q E hr h => ?_)
  · obtain ⟨F, G, ds, xs, s, hR, _⟩ := h
    have := s.len
    rw [List.length_map, List.length_map, hl ds xs hR] at this
    exact this
  · obtain ⟨t, ht, hb⟩ := body cdv A outer s H E hr
    refine ⟨t, ht, ?_⟩
    obtain ⟨F1, G, ds, xs, st1, hR, q⟩ := h
    obtain ⟨es, hs⟩ := hb ds xs hR
    refine hs F1 G H _ _ (stt_start st1 (by rw [List.length_map, hl ds xs hR])) (fun p ws G' H' σ' s' hf g r => ?_)
    have rs : Reps K G vs ds := data_of (vs := vs) (ds := ds) (K := K) (F := F1) (G := G) (H := H) (by have := st1.len; simpa using this) st1.sl
    exact q p ws G' H' (stt_data s'.f s'.g s'.dj (rs.mono g)) hf g r
theorem el_call {ta : TA} {E : XK} {ds xs : List Dt} {P : List Dt → List Dt → Prop} (ha : EvA K ta es ds) (hP : P ds xs) : EvL K (tCall (FSpecL K P) [] E ta) es xs := fun F G H σ s Q q =>
  ha F G H σ s _ fun vs G1 H1 s1 g1 r1 => by
    show FSpecL K P (vs ++ []) H1 Q E
    rw [List.append_nil]
    refine ⟨DL.rem G1 H1, G1, ds, xs, stt_data s1.rem.1 s1.g s1.rem.2 r1, hP, fun p ws G2 H2 s2 hf g2 r2 => ?_⟩
    obtain ⟨a, b⟩ := s1.afterL s2.f s2.g s2.dj hf g2
    exact q p ws G2 H2 a b (g1.trans g2) r2
end
/-- of nothing -/
abbrev dE (x : Empty) : Dt := nomatch x
open PyProof.Rows in
/-- a def with defaults, as it stands -/
theorem fund_mkP {K : PySem.W.Frag} {x qual : Str} {st : Stmt} {f T : Addr} {oc tc : Value} {od td an : Option Addr} {osl tsl : Array (Option Value)} {kV doc pm cdv ct : Value} {its : Array Value} {n : Nat} {items : List Value} {dvs : List V}
    (l : K.lookup f = some ⟨oc, od, .func (PySem.W.fnOf x qual (defArgs st) (defBody st) (defScope st) (.ref T) kV doc pm an cdv ct), osl⟩)
    (c : PySem.W.codeIn K cdv qual = true) (k : PySem.W.keepIn K (.ref f) = true) (lt : K.lookup T = some ⟨tc, td, .seq its n, tsl⟩) (e : its = items.toArray) (r : Vals dvs items) (hne : dvs ≠ []) :
    FunD K x qual (defArgs st) (defBody st) (defScope st) dvs [] f (PySem.W.fnOf x qual (defArgs st) (defBody st) (defScope st) (.ref T) kV doc pm an cdv ct) :=
  ⟨⟨oc, od, .ref T, kV, doc, pm, an, cdv, ct, osl, rfl, l, c, .inr ⟨hne, T, _, items, n, rfl, lt, by subst e; rfl, r⟩, .inl rfl⟩, k⟩
end DL

/-! Dl10: own exceptions whose __init__ says super().__init__(f'invalid {field}'); self.field = field -/
namespace PySem
namespace DLX
open PySem.W PySem.Calls PyProof.Rows PySem.HandSPX
def iA (p1 p2 : Pos) : Arguments := { posonlyargs := [], args := [{ arg := "self", annotation := none, pos := p1 }, { arg := "field", annotation := none, pos := p2 }], vararg := none, kwonlyargs := [], kw_defaults := [], kwarg := none, defaults := [] }
def iP (pre : Bool) (q4 q5 q6 : Pos) : List Expr := match pre with
  | true => [.Constant (.str "invalid ") 0 q4, .FormattedValue (.Name "field" q5) (-1) none q6]
  | false => [.FormattedValue (.Name "field" q5) (-1) none q6, .Constant (.str " out of range") 0 q4]
def iB (pre : Bool) (q1 q2 q3 q4 q5 q6 q7 q8 q9 r1 r2 r3 r4 : Pos) : List Stmt := [.Expr (.Call (.Attribute (.Call (.Name "super" q1) [] [] q2) "__init__" q3) [.JoinedStr (iP pre q4 q5 q6) q7] [] q8) q9, .Assign [.Attribute (.Name "self" r1) "field" r2] (.Name "field" r3) r4]
def iS : Scope := { kind := .function, names := [(PySem.Str.ofString "self", .local), (PySem.Str.ofString "field", .local), (PySem.Str.ofString "__class__", .free), (PySem.Str.ofString "super", .globalImplicit)], isGenerator := false, isCoroutine := false, more := [] }
/-- what the written part says of such a class, at C, and of its __init__, at fI -/
structure ExcT (P : Program) (K : Frag) (mg : Str → Option Value) (nm : Str) (C fI : Addr) : Prop where
  gC : mg nm = some (.ref C)
  cls : ∃ n' q N bs bm sn sub ab col dd k0 k1 k2 k3 k5, K.lookup C = some (excClassObj n' q C N bs bm true sn sub ab col dd k0 k1 k2 k3 k5 "ValueError.__new__") ∧ refsVE bm = true
  sa : findIn K (.ref C) "__setattr__" = some (some (.builtin "object.__setattr__"))
  ga : findIn K (.ref C) "__getattribute__" = some (some (.builtin "BaseException.__getattribute__"))
  gg : findIn K (.ref C) "__getattr__" = some none
  noN : findIn K (.ref C) "field" = some none
  iC : findIn K (.ref C) "__init__" = some (some (.ref fI))
  tC : typeIn K (.ref fI) = some (.type "function")
  kC : keepIn K (.ref C) = true
  exC : subIn K (.ref C) (.type "BaseException") = some true
  veC : subIn K (.ref C) (.type "ValueError") = some true
  tyC : typeIn K (.ref C) = some (.type "type")
  hdC : hasDictIn K C = true
  mro : mroIn K C (.ref C) = some true
  sup : ks_superIn K C C "__init__" = some (some (.builtin "ValueError.__init__"))
  noS : mg "super" = none
  tp : nsIn K cStatics "thirdparty.any" = some none
  top : (P.main.scope.names.lookup ("super" : Str)).isSome = false
  fn : ∃ (oc : Value) (od : Option Addr) (qn : Str) (doc pm : Value) (an : Option Addr) (cda cc : Addr) (ct : Value) (osl : Array (Option Value)) (pre : Bool) (p1 p2 q1 q2 q3 q4 q5 q6 q7 q8 q9 r1 r2 r3 r4 : Pos),
    K.lookup fI = some ⟨oc, od, .func (ksFn "__init__" qn (iA p1 p2) (iB pre q1 q2 q3 q4 q5 q6 q7 q8 q9 r1 r2 r3 r4) iS .none .none doc pm an (.ref cda) ct cc), osl⟩ ∧ codeIn K (.ref cda) qn = true ∧
    (q3.endLine == q8.line) = true ∧ (∃ (ccl : Value) (cdd : Option Addr) (vs : Array Value) (ccs : Array (Option Value)) (file : Str) (tf : Tok), K.lookup cda = some ⟨ccl, cdd, .fields vs, ccs⟩ ∧ vs[2]? = some (.str file tf) ∧ ((P.main.file : Str) == file) = true) ∧
    ∃ (cl : Value) (cld : Option Addr) (csl : Array (Option Value)), K.lookup cc = some ⟨cl, cld, .cell (some (.ref C)), csl⟩
/-- what __init__ leaves of a fresh exception at x -/
structure InitEnd (h h' : Heap) (x C dx t1 : Addr) (v : Value) : Prop where
  keep : ∀ b o, b ≠ x → h.get? b = some o → h'.get? b = some o
  obj : h'.get? x = some { cls := .ref C, dict := some dx, data := .fields #[.ref t1, .none, .none, .none, .bool false, .none] }
  dbig : h.objs.size ≤ dx
  dne : dx ≠ x
  ns : h'.Ns1 dx (fun y => if y = "field" then some v else none)
/-- a made one -/
structure OwnMade (h h' : Heap) (e C d : Addr) (v : Value) : Prop where
  keep : ∀ b o, h.get? b = some o → h'.get? b = some o
  new : h.objs.size ≤ e
  obj : ∃ oe vs, h'.get? e = some oe ∧ oe.cls = .ref C ∧ oe.dict = some d ∧ oe.data = .fields vs ∧ vs[1]? = some .none
  dbig : h.objs.size ≤ d
  dne : d ≠ e
  ns : h'.Ns1 d (fun y => if y = "field" then some v else none)
theorem meth_line {o : Expr} {name : Str} {apos pos : Pos} {a : Expr} {env : Env} (h : (apos.endLine == pos.line) = true) (hf : methodCallForm 1 (backTo pos (starEach [a] env)) [] = true := by rfl) : eval (.Call (.Attribute o name apos) [a] [] pos) env = (do
      let ov ← attributeBase o name env (eval o env)
      standAt apos.atName
      let (f, first) ← holding [ov] (getMethod ov name (do return (← importBound o env).getD true))
      callWith pos f first (backTo pos (starEach [a] env)) []) := by
  have e : ∀ (ov : Value) (as : List (Bool × Sem Value)), methodCallForm 1 as [] = true → methodCall o name apos pos env ov 1 as [] = (do
      let (f, first) ← holding [ov] (getMethod ov name (do return (← importBound o env).getD true))
      callWith pos f first as []) := fun ov as hf => by
    unfold methodCall methodCallPos calleeOf
    simp only [hf, h, Bool.not_true, Bool.false_or, if_true, pure_bind]
  show (do
    let ov ← attributeBase o name env (eval o env)
    standAt apos.atName
    methodCall o name apos pos env ov 1 (backTo pos (starEach [a] env)) []) = _
  simp only [e _ _ hf]
theorem one_size (v : Value) : [v].length ≤ sizeLine := by
  rw [sizeLine_eq]
  exact (by decide : 1 ≤ 16777216)
/-- super().__init__ bound to x, called -/
theorem call_mw {prog : Program} {w : World} {A : Around} {E : Value → Shared → Prop} {h : Heap} {g : Array GenState} {d : Drawn} {t : Nat} {os : OsState} {u x C t0 : Addr} {rest : List Value} {Q : Value → Shared → Prop} {n' q : Str} {N : Addr} {bs bm : List Value} {sn : List Str} {sub : List Value} {ab : Bool} {col : Option Bool} {dd : Option Addr} {k0 k1 k2 k3 k5 : Option Value}
    (hC : h.get? C = some (excClassObj n' q C N bs bm true sn sub ab col dd k0 k1 k2 k3 k5 "ValueError.__new__")) (he : h.get? x = some (excO C t0)) (hu : h.get? u = some (kxs_mw "ValueError.__init__" x)) (hz : rest.length ≤ sizeLine)
    (hq : ∀ h' t1, (∀ b o, b ≠ x → h.get? b = some o → h'.get? b = some o) → h'.get? x = some (excO C t1) → Q .none ⟨h', g, d, t, os⟩) :
    wpAny (model prog w) A (call (.ref u) rest) Q E ⟨h, g, d, t, os⟩ := by
  have FB := F.excBase_ValueError
  refine wpAny_call (codeAny_of_tree ?_)
  show wpAny _ A.in1 (callAny (.ref u) ⟨rest, []⟩) _ _ _
  simp only [callAny]
  refine wpAny_bind (wpAny_load hu ?_)
  simp only [kxs_mw, show (Value.type "method-wrapper" == Value.type "method" || Value.type "method-wrapper" == Value.type "builtin_function_or_method" || Value.type "method-wrapper" == Value.type "method-wrapper") = true by decide, if_true]
  refine KFB.if_so (by decide) ?_
  refine wpAny_bind (check_bound_init FB.toExcCallFacts hC he rfl ?_)
  refine wpAny_bind (wpAny_pure (wpAny_pure ?_))
  refine ⟨plainId_quiet FB.init.plain _, codeAny_builtin FB.initEntry ?_⟩
  exact exc_init_tree (cls := .ref C) (t0 := t0) (dv := none) (c2 := .none) (c3 := .none) (b4 := .bool false) he hz fun h' k e' _ => hq h' h.objs.size k e'
/-- the text that super().__init__ is given -/
theorem joined_ok {M : Model} {A : Around} {E : Value → Shared → Prop} {s : Shared} {env : Env} {m : Str → Option Value} {f : Str} {tk0 : Tok} {pre : Bool} {q4 q5 q6 q7 : Pos} {Q : Value → Shared → Prop} (hn : s.heap.Ns env.locals m) (hv : m "field" = some (.str f tk0)) (hs : f.length ≤ 1000) (hk : env.scope.kind = .function) (hl : env.kindOf "field" = some .local)
    (h : ∀ v tk, Q v { s with toks := tk }) : wpAny M A (eval (.JoinedStr (iP pre q4 q5 q6) q7) env) Q E s := by
  have z0 : f.length ≤ sizeLine := by
    rw [sizeLine_eq]
    omega
  cases pre with
  | true =>
    have z1 : ((Str.empty : Str) ++ ("invalid " : Str)).length ≤ sizeLine := by
      rw [sizeLine_eq]
      decide
    have z2 : (((Str.empty : Str) ++ ("invalid " : Str)) ++ f).length ≤ sizeLine := by
      have h8 : ((Str.empty : Str) ++ ("invalid " : Str)).length ≤ 8 := by decide
      rw [sizeLine_eq, strLen_append]
      exact Nat.le_trans (Nat.add_le_add h8 hs) (by decide)
    refine JoinedStr_many (pos := q7) (joinParts_cons (Constant_str ⟨z1, joinParts_cons (FormattedValue_plain ?_)⟩))
    refine wpAny_Name (wpAny_loadName_local hk hl hn hv ?_) (by decide)
    exact formatField_str (fun t' tk => ⟨z2, joinParts_nil (h _ _) z2⟩) z0
  | false =>
    have z1 : ((Str.empty : Str) ++ f).length ≤ sizeLine := by
      have h8 : (Str.empty : Str).length ≤ 0 := by decide
      rw [sizeLine_eq, strLen_append]
      exact Nat.le_trans (Nat.add_le_add h8 hs) (by decide)
    have z2 : (((Str.empty : Str) ++ f) ++ (" out of range" : Str)).length ≤ sizeLine := by
      have h8 : (Str.empty : Str).length ≤ 0 := by decide
      have h9 : (" out of range" : Str).length ≤ 20 := by decide
      rw [sizeLine_eq, strLen_append, strLen_append]
      exact Nat.le_trans (Nat.add_le_add (Nat.add_le_add h8 hs) h9) (by decide)
    refine JoinedStr_many (pos := q7) (joinParts_cons (FormattedValue_plain ?_))
    refine wpAny_Name (wpAny_loadName_local hk hl hn hv ?_) (by decide)
    exact formatField_str (fun t' tk => ⟨z1, joinParts_cons (Constant_str ⟨z2, joinParts_nil (h _ _) z2⟩)⟩) z0
section
variable {prog : Program} {w : World} {A : Around} {E : Value → Shared → Prop} {R : Result → Shared → Prop} {s : Shared} {base : Heap} {K : Frag} {mg : Str → Option Value} {C fI : Addr} {nm : Str}
theorem exc_init (T : ExcT prog K mg nm C fI) {x t0 : Addr} {f : Str} {tk0 : Tok} (hs : f.length ≤ 1000) (MD : L2.Mod K mg base) (kb : ∀ b o, base.get? b = some o → s.heap.get? b = some o) (hx : s.heap.get? x = some (excO C t0)) (hnx : base.get? x = none) (hroom : A.depth < recursionLimit)
    (hq : ∀ h' tk dx t1, InitEnd s.heap h' x C dx t1 (.str f tk0) → R (.ok (.ret .none)) { s with heap := h', toks := tk }) :
    codeAny (model prog w) A (.call (.ref fI) ⟨[.ref x, .str f tk0], []⟩) R s := by
  obtain ⟨oc, od, qn, doc, pm, an, cda, cc, ct, osl, pre, p1, p2, q1, q2, q3, q4, q5, q6, q7, q8, q9, r1, r2, r3, r4, ho, hcd, hpos, ⟨ccl, cdd, vs, ccs, file, tf, hcda, hvs, hfile⟩, cl, cld, csl, hcc⟩ := T.fn
  obtain ⟨n', q, N, bs, bm, sn, sub, ab, col, dd, k0, k1, k2, k3, k5, hC, hbm⟩ := T.cls
  have X : K.In s.heap := MD.kin.keeps kb
  have hcl : clsIn K C = some { name := n', bases := bs, mro := .ref C :: bm, ns := N, qualname := q, hasDict := true, slotNames := sn, subclasses := sub, abstract := ab, collection := col, hasDel := false } := by unfold clsIn; rw [hC] <;> rfl
  obtain ⟨cdD, hcD⟩ : ∃ cd, clsIn K C = some cd := ⟨_, hcl⟩
  refine ks_codeAny_call_defAt (fd := ksFn "__init__" qn (iA p1 p2) (iB pre q1 q2 q3 q4 q5 q6 q7 q8 q9 r1 r2 r3 r4) iS .none .none doc pm an (.ref cda) ct cc) (body := iB pre q1 q2 q3 q4 q5 q6 q7 q8 q9 r1 r2 r3 r4) (binds := [("self", .ref x), ("field", .str f tk0)]) hroom (X _ _ ho) rfl
    (MD.nolimit.keeps kb) (codeRec_of X hcd) rfl (BindsTo.of_eq (by first | rfl | with_unfolding_all rfl)) (by show ∀ y ∈ iS.names, y.2 ≠ NameKind.cell; decide) (fun y hy => ?_) (fun h₁ hns k₁ => ?_) rfl rfl rfl
  · rcases List.mem_cons.mp hy with rfl | hy
    · rfl
    · rcases List.mem_cons.mp hy with rfl | hy
      · rfl
      · cases hy
  have X₁ : K.In h₁ := X.keeps k₁
  have kb₁ : ∀ b o, base.get? b = some o → h₁.get? b = some o := fun b o e => k₁ b o (kb b o e)
  have hx₁ := k₁ _ _ hx
  generalize hL : s.heap.objs.size = L at *
  have I₁ : InstAt h₁ x (excO C t0) C none := ⟨hx₁, rfl, rfl, trivial⟩
  show _root_.PySem.wpAt (model prog w) (A.deeper (ksEnv qn iS L fI (.ref cda) cc)) (.func (iB pre q1 q2 q3 q4 q5 q6 q7 q8 q9 r1 r2 r3 r4) (ksEnv qn iS L fI (.ref cda) cc)) (execs (iB pre q1 q2 q3 q4 q5 q6 q7 q8 q9 r1 r2 r3 r4) (ksEnv qn iS L fI (.ref cda) cc)) _ _ _
  obtain ⟨mb, hmb, hmbe⟩ := MD.blt
  obtain ⟨oD, hD1, hD2⟩ : ∃ oD, h₁.get? C = some oD ∧ oD.data = .cls cdD := by
    unfold clsIn at hcD
    split at hcD
    · rename_i c d cd' sl ho'
      cases hcD
      exact ⟨_, X₁ _ _ ho', rfl⟩
    · cases hcD
  unfold iB
  refine ks_wpAt_execs_cons ?_
  refine ks_wpAt_Expr_any ?_
  refine ks_wpAt_MethodCall (he := meth_line hpos) ?_
  refine ks_wpAt_super_base (env := ksEnv qn iS L fI (.ref cda) cc) rfl rfl (by decide) rfl (X₁ _ _ ho) rfl rfl rfl (X₁ _ _ hcda) rfl hvs hfile T.top ?_
  refine ks_loadName_global rfl rfl (loadGlobal_builtin (env := ksEnv qn iS L fI (.ref cda) cc) (MD.glob.keeps kb₁) T.noS (hmb.keeps kb₁) ((hmbe "super" (by decide)).trans (b := bootBuiltins "super") (c := some (.type "super")) (by decide +kernel)) ⟨rfl, ?_⟩)
  refine wpAny_loadName_free rfl rfl rfl ⟨_, X₁ _ _ hcc, rfl⟩ ?_
  refine wpAny_loadName_local rfl rfl hns (v := .ref x) rfl ?_
  refine ks_wpAny_isType_cls hD1 hD2 ⟨rfl, ?_⟩
  refine ks_wpAny_call_super hD1 hD2 hx₁ rfl (fun c e => by cases e) (looks_mroIn X₁ T.mro) (fun h₂ e₂ k₂ => ?_)
  generalize hso : h₁.objs.size = so at *
  have X₂ : K.In h₂ := X₁.keeps k₂
  have hx₂ := k₂ _ _ hx₁
  have I₂ : InstAt h₂ x (excO C t0) C none := ⟨hx₂, rfl, rfl, trivial⟩
  have hsup := T.sup
  unfold ks_superIn at hsup
  rw [hcl] at hsup
  refine kxs_getMethod kxs_ValueError e₂ (looks_opaque X₂ T.tp) (l₀ := Value.ref C :: bm) (fun A Q E s k q => wpAny_bind ((looks_clsIn X₂ hcl) A _ E s k (wpAny_pure q))) rfl X₂ hsup (I₂.type.andThen (looks_subIn X₂ T.veC)) (ks_ne X₂ I₂ hcl) (by decide) ?_
  have k₃ : ∀ b o, h₂.get? b = some o → (h₂.push (kxs_mw "ValueError.__init__" x)).get? b = some o := fun b o e => Heap.get?_push_of_some _ e
  have hm₃ : (h₂.push (kxs_mw "ValueError.__init__" x)).get? h₂.objs.size = some (kxs_mw "ValueError.__init__" x) := Heap.get?_push_at rfl rfl
  generalize hu : h₂.objs.size = u at *
  generalize h₂.push (kxs_mw "ValueError.__init__" x) = h₃ at *
  have X₃ : K.In h₃ := X₂.keeps k₃
  have hx₃ := k₃ _ _ hx₂
  have hns₃ : h₃.Ns L _ := hns.keeps fun b o e => k₃ _ _ (k₂ _ _ e)
  dsimp only
  rw [show starEach [Expr.JoinedStr (iP pre q4 q5 q6) q7] (ksEnv qn iS L fI (.ref cda) cc) = (false, eval (Expr.JoinedStr (iP pre q4 q5 q6) q7) (ksEnv qn iS L fI (.ref cda) cc)) :: starEach [] (ksEnv qn iS L fI (.ref cda) cc) from rfl]
  refine kxs_callWith (i := "ValueError.__init__") (x := x) rfl ?_
  refine evalArgs_plain ?_
  refine spliced_cons (joined_ok (q7 := q7) hns₃ rfl hs rfl rfl fun v tk => spliced_nil ⟨hm₃, ?_⟩)
  refine call_mw (X₃ _ _ hC) hx₃ hm₃ (one_size _) fun h₄ t1 k₄ hx₄ => ?_
  have X₄ : K.In h₄ := fun a o e => k₄ a o (fun q => by
    subst q
    have := MD.kin _ _ e
    rw [hnx] at this
    cases this) (X₃ a o e)
  have Lx : L ≠ x := fun e => by
    refine absurd (Heap.lt_size hx) ?_
    rw [hL, e]
    exact Nat.lt_irrefl _
  have hns₄ : h₄.Ns L (fun y => List.lookup y [(("self" : Str), Value.ref x), (("field" : Str), Value.str f tk0)].reverse) := by
    obtain ⟨oL, es, ep, e, r⟩ := hns₃
    exact ⟨oL, es, ep, k₄ _ _ Lx e, r⟩
  refine wpAt_of_wpAny ?_
  refine wpAny_execs_cons (plainObj_wpAny_Assign_Attribute ?_)
  refine wpAny_Name (wpAny_loadName_local rfl rfl hns₄ (v := .str f tk0) rfl ?_) (by decide)
  refine wpAny_Name (wpAny_loadName_local rfl rfl hns₄ (v := .ref x) rfl ?_) (by decide)
  refine set_plain X₄ (ox := excO C t1) (od := none) ⟨hx₄, rfl, rfl, trivial⟩ T.sa ?_
  refine exc_osa X₄ hx₄ hcl (show refsVE (.ref C :: bm) = true from hbm) rfl T.noN (fun h₅ tk₅ dx k₅ dn dne hx₅ hn₅ => ?_)
  have sz : s.heap.objs.size ≤ h₄.objs.size := by
    rw [hL]
    exact Nat.le_of_lt hns₄.lt
  refine wpAny_execs_nil (hq h₅ tk₅ dx t1 ⟨fun b o hb e => k₅ b o hb (k₄ b o hb (k₃ _ _ (k₂ _ _ (k₁ b o e)))), hx₅, Nat.le_trans sz dn, dne, hn₅⟩)
theorem exc_made (T : ExcT prog K mg nm C fI) {f : Str} {tk0 : Tok} (hs : f.length ≤ 1000) (MD : L2.Mod K mg base) (kb : ∀ b o, base.get? b = some o → s.heap.get? b = some o) (bz : base.objs.size ≤ s.heap.objs.size) (hroom : A.depth + 1 < recursionLimit)
    (hq : ∀ h' tk e d, OwnMade s.heap h' e C d (.str f tk0) → R (.ok (.ret (.ref e))) { s with heap := h', toks := tk }) :
    codeAny (model prog w) A (.call (.ref C) ⟨[.str f tk0], []⟩) R s := by
  obtain ⟨n', q, N, bs, bm, sn, sub, ab, col, dd, k0, k1, k2, k3, k5, hC, hbm⟩ := T.cls
  have X : K.In s.heap := MD.kin.keeps kb
  obtain ⟨hp, g, dr, tk, os⟩ := s
  have k : ∀ b o, hp.get? b = some o → ((hp.push (kdv_tup [.str f tk0])).push (excO C hp.objs.size)).get? b = some o := fun b o e => Heap.get?_push_of_some _ (Heap.get?_push_of_some _ e)
  have hget : ((hp.push (kdv_tup [.str f tk0])).push (excO C hp.objs.size)).get? (hp.objs.size + 1) = some (excO C hp.objs.size) := by heap_get
  have hnx : base.get? (hp.objs.size + 1) = none := by
    cases e : base.get? (hp.objs.size + 1) with
    | none => rfl
    | some o => exact absurd (Nat.lt_of_lt_of_le (Heap.lt_size e) bz) (Nat.not_lt.mpr (Nat.le_succ _))
  refine call_own F.excBase_ValueError (fun X => refsVE_contains X bm hbm) (X _ _ hC) (looks_findIn X T.iC) (fun self => bind_fn X self T.tC) (one_size _) ?_
  refine exc_init (s := ⟨(hp.push (kdv_tup [.str f tk0])).push (excO C hp.objs.size), g, dr, tk, os⟩) T hs MD (fun b o e => k b o (kb b o e)) hget hnx ?_ fun h' tk' dx t1 ⟨k', hx, dn, dne, hns⟩ => ?_
  · show A.depth + 1 < recursionLimit
    exact hroom
  · have old : ∀ b o, hp.get? b = some o → h'.get? b = some o := fun b o e => k' b o (Nat.ne_of_lt (Nat.lt_succ_of_lt (Heap.lt_size e))) (k b o e)
    have z : hp.objs.size + 1 + 1 ≤ dx := by
      first
        | (simpa only [Heap.size_push] using dn)
        | exact dn
        | (have q := dn; rw [Heap.size_push, Heap.size_push] at q; exact q)
    exact ⟨rfl, hq h' tk' (hp.objs.size + 1) dx ⟨old, Nat.le_succ _, ⟨_, _, hx, rfl, rfl, rfl, rfl⟩, Nat.le_trans (Nat.le_trans (Nat.le_succ _) (Nat.le_succ _)) z, dne, hns⟩⟩
end
end DLX
end PySem
namespace L2
open PySem PySem.Spec PyProof.Rows
theorem relO_field {v : V} {v' : Value} (r : RelV v v') (f : Str) : RelO (List.lookup f [(("field" : Str), v)]) (if f = "field" then some v' else none) := by
  by_cases hw : f = "field"
  · subst hw
    rw [if_pos rfl]
    have q : List.lookup ("field" : Str) [(("field" : Str), v)] = some v := by simp [List.lookup]
    rw [q]
    exact r
  · rw [if_neg hw]
    have qw : (f == ("field" : Str)) = false := by simpa using hw
    have q2 : List.lookup f [(("field" : Str), v)] = none := by simp [List.lookup, qw]
    rw [q2]
    trivial
section
variable {X : Cx} {C fI : Addr} {nm : Str}
/-- C(e) -/
def tMkX (C : Addr) (ta : TA) : St → Hp → XK → Prop := fun σ H Q => ta σ H fun vs H1 => ∃ f : Str, vs = [.str f] ∧ f.length ≤ 1000 ∧ ∀ d, H1 d = none → Q (.ref C) (some d) (upd H1 d (.xd [(("field" : Str), .str f)]))
theorem pmk_x {a : Expr} {ta : TA} {p pos : Pos} {k : Nat} (T : PySem.DLX.ExcT X.prog X.K X.mg nm C fI) (hr : Room (k + 1) X.A) (ha : PA X [a] ta) (hg : Gl X nm) (hdb : (nm == ("__debug__" : Str)) = false := by decide)
    (he : starEach (a :: []) X.env = (false, eval a X.env) :: starEach [] X.env := by rfl) (hpl : (backTo pos (starEach [] X.env)).any (·.1) = false := by rfl) :
    PMk X (.Call (.Name nm p) [a] [] pos) (tMkX C ta) := by
  intro pins s σ H Q I h
  refine wpAny_Call_Name_kw (ld_glob I hg T.gC ?_ hdb)
  refine PySem.W.callWith_K (h₀ := X.base) I.ok.mod.kin T.kC (thn (ha.run pos pins s σ H _ I h) fun us s1 hh => ?_) he hpl
  obtain ⟨vs, H1, I1, r1, f, ev, hz, q1⟩ := hh
  subst ev
  refine ⟨I1.kIn, ?_⟩
  cases r1 with
  | cons rv rn =>
    rename_i v' us'
    cases rn
    obtain ⟨tk0, rfl⟩ := rv
    show wpAny _ _ (call (.ref C) [.str f tk0]) _ _ _
    have bz : X.base.objs.size ≤ s1.heap.objs.size := Nat.le_trans I1.ok.bsz I1.sz
    have bk := I1.bk
    obtain ⟨hp, g, dr, tk, os⟩ := s1
    refine wpAny_call (PySem.DLX.exc_made T hz I1.ok.mod bk bz (by have := hr.dp; omega) fun h' tk' e d M => ?_)
    show MkP X pins σ Q (.ref e) ⟨h', g, dr, tk', os⟩
    obtain ⟨oe, fv, hoe, hc, hd, hdat, h1⟩ := M.obj
    have hns := M.ns
    obtain ⟨G', g1, g2⟩ := restrict h' fun b => decide (b ≠ e)
    have gk : ∀ b, b ≠ e → G'.get? b = h'.get? b := fun b hb => g1 b (decide_eq_true hb)
    have ge : G'.get? e = none := g2 e (by simp)
    have old : ∀ b o, hp.get? b = some o → G'.get? b = some o := fun b o q => (gk b (Nat.ne_of_lt (Nat.lt_of_lt_of_le (Heap.lt_size q) M.new))).trans (M.keep b o q)
    have ob : ObjOk X.prog X.w (upd H1 d (.xd [(("field" : Str), .str f)])) G' d (.xd [(("field" : Str), .str f)]) :=
      ⟨_, hns.at (fun o q => (gk d M.dne).trans q), fun g => relO_field (v := .str f) ⟨tk0, rfl⟩ g⟩
    have J : Inv X pins σ (upd H1 d (.xd [(("field" : Str), .str f)])) ⟨G', g, dr, tk', os⟩ := I1.laid (t' := tk') old M.dbig ob
    refine ⟨e, oe, fv, ⟨G', g, dr, tk', os⟩, _, .ref C, some d, rfl, J, fun b o q => ?_, ge, hoe, ⟨hc, hd⟩, hdat, h1, ?_, rfl, I1.bare, raises_own T.exC T.tyC, q1 d (I1.hok.fresh M.dbig)⟩
    · by_cases hb : b = e
      · have q' : G'.get? b = some o := q
        rw [hb, ge] at q'; cases q'
      · exact (gk b hb).symm.trans q
    · rw [upd_ne (Ne.symm M.dne)]
      exact I1.hok.fresh M.new
/-- raise C(e) -/
def tRaiseX (C : Addr) (W : WX) (ta : TA) : TS := fun _ σ H => tMkX C ta σ H fun cls d H' => W cls d σ H'
theorem ps_raiseX {a : Expr} {ta : TA} {W : WX} {p pos pos2 : Pos} {k : Nat} (hc : X.calm = true) (T : PySem.DLX.ExcT X.prog X.K X.mg nm C fI) (hr : Room (k + 1) X.A) (tk : Takes X W) (ha : PA X [a] ta) (hg : Gl X nm) (hdb : (nm == ("__debug__" : Str)) = false := by decide)
    (he : starEach (a :: []) X.env = (false, eval a X.env) :: starEach [] X.env := by rfl) (hpl : (backTo pos (starEach [] X.env)).any (·.1) = false := by rfl) :
    PS X (.Raise (some (.Call (.Name nm p) [a] [] pos)) none pos2) (tRaiseX C W ta) := ps_raise hc tk (pmk_x T hr ha hg hdb he hpl)
theorem xfC_of (T : PySem.DLX.ExcT X.prog X.K X.mg nm C fI) : XfC X.K C := ⟨T.ga, T.gg, T.exC, T.hdC⟩
end
end L2

/-! ### the layer -/
namespace DL
open PySem L2
def xdF (f : Str) : HO := .xd [(("field" : Str), V.str f)]
/-- where an exception of the class at c with its field f leaves -/
def GoodX (F G : Hp) (E : XK) (c : Addr) (f : Str) : Prop := ∀ dd G' H', Same F H' → Same G' H' → (∀ a o, F a = some o → G' a = none) → Same G G' → H' dd = some (xdF f) → F dd = none → G' dd = none → E (.ref c) (some dd) H'
def SEvX (K : PySem.W.Frag) (t : TS) (E : XK) (es : List Sl) (c : Addr) (f : Str) : Prop := ∀ F G H σ D, Stt K F G H σ es → GoodX F G E c f → t D σ H
def SMX (K : PySem.W.Frag) (t : TS) (E : XK) (es : List Sl) (c : Addr) (m : Option Str) : Prop := ∀ f, m = some f → SEvX K t E es c f
theorem GoodX.up {F G G1 : Hp} {E : XK} {c : Addr} {f : Str} (h : GoodX F G E c f) (g : Same G G1) : GoodX F G1 E c f := fun dd G' H' a b d e u v w => h dd G' H' a b d (g.trans e) u v w
section
variable {K : PySem.W.Frag} {E : XK} {es fs : List Sl} {c : Addr} {t u tz : TS} {m p q : Option Str} {te : TE} {d : Dt} {tt : TT}
theorem smx_none : SMX K t E es c none := fun f e => by cases e
theorem smx_bind {α : Type} {m1 : Option α} {f : α → Option Str} (h : ∀ x, m1 = some x → SMX K t E es c (f x)) : SMX K t E es c (m1.bind f) := fun r e => by
  cases q : m1 with
  | none => rw [q] at e; cases e
  | some x =>
    rw [q] at e
    exact h x q r e
theorem smx_lt {α : Type} {e : α} {f : α → Option Str} (h : ∀ x, e = x → SMX K t E es c (f x)) : SMX K t E es c (lt e f) := h e rfl
theorem smx_one (h : SMX K (tSeq t tNext) E es c m) : SMX K t E es c m := h
theorem smx_as {v : TS} (h : SMX K (tSeq t (tSeq u v)) E es c m) : SMX K (tSeq (tSeq t u) v) E es c m := h
theorem smx_nil (h : SMX K tz E es c m) : SMX K (tSeq tNext tz) E es c m := h
theorem smx_wk {gs : List Sl} (w : Wk es gs) (h : SMX K t E gs c m) : SMX K t E es c m := fun r e F G H σ D s q => h r e F G H σ D (s.wk w) q
theorem smx_asg {i : Nat} (h : Ev K te es d) (k : SMX K tz E (es.set i (.d d)) c m) : SMX K (tSeq (tAsg te (gName i)) tz) E es c m := fun r e F G H σ D s q =>
  h F G H σ s _ fun v G1 H1 s1 g1 r1 => k r e F G1 H1 _ D (s1.set r1) (q.up g1)
theorem smx_if {b : Bool} (h : EvT K tt es b) (h1 : b = true → SMX K (tSeq t tz) E es c p) (h2 : b = false → SMX K (tSeq u tz) E es c q) : SMX K (tSeq (tIfS tt t u) tz) E es c (if b = true then p else q) := fun r e F G H σ D s k =>
  h F G H σ s _ fun G1 H1 s1 g1 => by
    cases b with
    | true =>
      show t _ σ H1
      exact h1 rfl r e F G1 H1 σ D s1 (k.up g1)
    | false =>
      show u _ σ H1
      exact h2 rfl r e F G1 H1 σ D s1 (k.up g1)
theorem smx_raise {ta : TA} {f : Str} (ha : EvA K ta es [.str f]) (hz : f.length ≤ 1000) : SMX K (tSeq (tRaiseX c (fun cls d _ H => E cls d H) ta) tz) E es c (some f) := fun r e F G H σ D s q => by
  cases e
  refine ha F G H σ s _ fun vs G1 H1 s1 g1 r1 => ?_
  cases r1 with
  | cons rv rn =>
    cases rn
    cases rv
    refine ⟨f, rfl, hz, fun dd hd => ?_⟩
    have fd := s1.fnone hd
    have gd := s1.gnone hd
    exact q dd G1 _ (s1.f.trans (same_upd hd)) (s1.g.trans (same_upd hd)) s1.dj g1 upd_same fd gd
end
/-- the promise of a def that raises -/
def FSpecX (K : PySem.W.Frag) (R : List Sl → Addr → Str → Prop) : Sp := fun vs H _ E => ∃ F G ss c f, Stt K F G H (vs.map some) ss ∧ R ss c f ∧ GoodX F G E c f
def XD (P : List Dt → Addr → Str → Prop) : List Sl → Addr → Str → Prop := fun ss c f => ∃ ds, ss = ds.map .d ∧ P ds c f
def XI (C : Addr) (P : List Dt → Addr → Str → Prop) : List Sl → Addr → Str → Prop := fun ss c f => ∃ p ds, ss = .obo (some p) C [] :: ds.map .d ∧ P ds c f
def spOr (a b : Sp) : Sp := fun vs H Q E => a vs H Q E ∨ b vs H Q E
section
variable {P : Program} {w : World} {K : PySem.W.Frag} {mg : Str → Option Value} {base : Heap}
theorem fn_or {f : Addr} {fd : FuncData} {ps : List Str} {j k : Nat} {a b : Sp} (F1 : FnOk P w K mg base CX0 j f fd ps a) (F2 : FnOk P w K mg base (L2.CX P w) k f fd ps b) : FnOk P w K mg base (L2.CX P w) (max j k) f fd ps (spOr a b) :=
  ⟨fun vs H Q E h => h.elim (F1.len vs H Q E) (F2.len vs H Q E), fun A outer s H args us vs Q E hr he hb hv hs => hs.elim
    (fun h => codeAny_mono (F1.run A outer s H args us vs Q E (hr.mono (Nat.le_max_left ..)) he hb hv h) fun r s' q => by
      cases r with
      | ok fl => cases fl <;> exact q
      | error e => exact False.elim q)
    (fun h => F2.run A outer s H args us vs Q E (hr.mono (Nat.le_max_right ..)) he hb hv h)⟩
theorem fnx_D {x qual : Str} {st : Stmt} {f : Addr} {fd : FuncData} {N ps : List Str} {k : Nat} {R : List Dt → Addr → Str → Prop} (F : Fun K x qual st f fd) (S : FnScope N ps (defScope st)) (hl : ∀ ds c g, R ds c g → ds.length = ps.length)
    (body : ∀ (cdv : Value) (A : Around) (outer : List Env) (s : Shared) (H : Hp) (E : XK), Room k (A.deeper (PyProof.Rows.envOfC qual (defScope st) s.heap.objs.size f cdv)) →
      ∃ t, PSs (cxOf (L2.CX P w) P w K mg base N qual (defScope st) f cdv A outer s H E) (defBody st) t ∧ ∀ ds c g, R ds c g → SEvX K t E (ds.map .d ++ List.replicate (N.length - ps.length) .un) c g) :
    FnOk P w K mg base (L2.CX P w) (k + 1) f fd ps (FSpecX K (XD R)) := by
  refine F.okX S (fun vs H Q E h => ?_) (fun cdv A outer s H vs Q E hr h => ?_)
  · obtain ⟨F, G, ss, c, g, s, ⟨ds, rfl, hR⟩, _⟩ := h
    have := s.len
    rw [List.length_map, List.length_map, hl ds c g hR] at this
    exact this
  · obtain ⟨t, ht, hb⟩ := body cdv A outer s H E hr
    refine ⟨t, ht, ?_⟩
    obtain ⟨F1, G, ss, c, g, st1, ⟨ds, rfl, hR⟩, q⟩ := h
    exact hb ds c g hR F1 G H _ _ (stt_start st1 (by rw [List.length_map, hl ds c g hR])) q
theorem fnx_I {x qual : Str} {st : Stmt} {f : Addr} {fd : FuncData} {N ps : List Str} {k : Nat} {C : Addr} {R : List Dt → Addr → Str → Prop} (F : Fun K x qual st f fd) (S : FnScope N ps (defScope st)) (hl : ∀ ds c g, R ds c g → ds.length + 1 = ps.length)
    (body : ∀ (cdv : Value) (A : Around) (outer : List Env) (s : Shared) (H : Hp) (E : XK), Room k (A.deeper (PyProof.Rows.envOfC qual (defScope st) s.heap.objs.size f cdv)) →
      ∃ t, PSs (cxOf (L2.CX P w) P w K mg base N qual (defScope st) f cdv A outer s H E) (defBody st) t ∧ ∀ p ds c g, R ds c g → SEvX K t E (.obo (some p) C [] :: ds.map .d ++ List.replicate (N.length - ps.length) .un) c g) :
    FnOk P w K mg base (L2.CX P w) (k + 1) f fd ps (FSpecX K (XI C R)) := by
  refine F.okX S (fun vs H Q E h => ?_) (fun cdv A outer s H vs Q E hr h => ?_)
  · obtain ⟨F, G, ss, c, g, s, ⟨p, ds, rfl, hR⟩, _⟩ := h
    have := s.len
    rw [List.length_map, List.length_cons, List.length_map, hl ds c g hR] at this
    exact this
  · obtain ⟨t, ht, hb⟩ := body cdv A outer s H E hr
    refine ⟨t, ht, ?_⟩
    obtain ⟨F1, G, ss, c, g, st1, ⟨p, ds, rfl, hR⟩, q⟩ := h
    exact hb p ds c g hR F1 G H _ _ (stt_start st1 (by rw [List.length_cons, List.length_map, hl ds c g hR])) q
end

/-! ### calls that may raise -/
/-- a call raises: c with its field f -/
def XvE (K : PySem.W.Frag) (tc : (L2.St → XK) → TE) (es : List Sl) (c : Addr) (f : Str) : Prop := ∀ F G H σ, Stt K F G H σ es → ∀ (Q : VK) (E : L2.St → XK),
  (∀ dd G' H', Stt K F G' H' σ es → Same G G' → H' dd = some (xdF f) → F dd = none → G' dd = none → E σ (.ref c) (some dd) H') → tc E σ H Q
section
variable {K : PySem.W.Frag} {es : List Sl} {ta tk : TA} {ds ks ds' : List Dt} {d : Dt} {c : Addr} {f : Str} {R : List Dt → Addr → Str → Prop} {sp2 : Sp}
theorem ev_callX {P : List Dt → Dt → Prop} {E : L2.St → XK} (ha : EvA K ta es ds) (hP : P ds d) : Ev K (tCallS (spOr (FSpec K (RD P)) sp2) E ta) es d := fun F G H σ s Q q =>
  ha F G H σ s _ fun vs G1 H1 s1 g1 r1 => .inl ⟨DL.rem G1 H1, G1, ds.map .d, d, ds.map .d, stt_data s1.rem.1 s1.g s1.rem.2 r1, ⟨_, rfl, rfl, hP⟩, fun v G2 H2 s2 g2 r2 =>
    q v G2 H2 (s1.after s2.f s2.g s2.dj g2) (g1.trans g2) r2⟩
theorem xv_call {a : Sp} (ha : EvA K ta es ds) (hP : R ds c f) : XvE K (fun E => tCallS (spOr a (FSpecX K (XD R))) E ta) es c f := fun F G H σ s Q E q =>
  ha F G H σ s _ fun vs G1 H1 s1 g1 r1 => .inr ⟨DL.rem G1 H1, G1, ds.map .d, c, f, stt_data s1.rem.1 s1.g s1.rem.2 r1, ⟨_, rfl, hP⟩, fun dd G2 H2 a1 a2 a3 a4 a5 a6 a7 => by
    have s2 := s1.after a1 a2 a3 a4
    refine q dd G2 H2 s2 (g1.trans a4) a5 ?_ a7
    cases q : F dd with
    | none => rfl
    | some o =>
      have h1 := s1.f dd o q
      have g0 := s1.dj dd o q
      rw [DL.rem_of g0, h1] at a6
      cases a6⟩
/-- f(e, .., k = v, ..) -/
def tCallNS (n m : Nat) (sp : Sp) (gV : List V → List V → List V) (E : L2.St → XK) (t tk : TA) : TE := fun σ H Q => t σ H fun vs H1 => tk σ H1 fun zs H2 => vs.length = n ∧ zs.length = m ∧ sp (gV vs zs) H2 Q (E σ)
theorem tCallNS_perm {n m : Nat} {sp : Sp} {fV : List V → List V → List V} {E : L2.St → XK} : tCallS sp E (tPermA n m fV ta tk) = tCallNS n m sp fV E ta tk := by
  funext σ H Q
  unfold tCallS tCallNS tPermA
  rfl
theorem ev_callNX {P : List Dt → Dt → Prop} {n m : Nat} {fV : List V → List V → List V} {E : L2.St → XK} (ha : EvA K ta es ds) (hk : EvA K tk es ks) (hn : ds.length = n) (hm : ks.length = m)
    (hf : ∀ G vs zs, Reps K G vs ds → Reps K G zs ks → Reps K G (fV vs zs) ds') (hP : P ds' d) : Ev K (tCallNS n m (spOr (FSpec K (RD P)) sp2) fV E ta tk) es d := by
  rw [← tCallNS_perm]
  exact ev_callX (ea_perm ha hk hn hm hf) hP
theorem xv_callN {a : Sp} {n m : Nat} {fV : List V → List V → List V} (ha : EvA K ta es ds) (hk : EvA K tk es ks) (hn : ds.length = n) (hm : ks.length = m)
    (hf : ∀ G vs zs, Reps K G vs ds → Reps K G zs ks → Reps K G (fV vs zs) ds') (hP : R ds' c f) : XvE K (fun E => tCallNS n m (spOr a (FSpecX K (XD R))) fV E ta tk) es c f := by
  have h := xv_call (a := a) (ea_perm ha hk hn hm hf) hP
  intro F G H σ s Q E q
  exact h F G H σ s Q E q
/-- C(e, ..) -/
def tMakeS (C : Addr) (sp : Sp) (E : L2.St → XK) (t : TA) : TE := fun σ H Q => t σ H fun vs H1 => ∀ x dx, H1 x = none → H1 dx = none → dx ≠ x →
  sp (.ref x :: vs) (upd (upd H1 dx (.own x)) x (.ins C dx [])) (fun v H2 => v = .non ∧ Q (.ref x) H2) (E σ)
theorem ev_makeX {P : List Dt → List (Str × Dt) → Prop} {C : Addr} {fs : List (Str × Dt)} {E : L2.St → XK} (ha : EvA K ta es ds) (hP : P ds fs) : Ev K (tMakeS C (spOr (FSpec K (RI C P)) sp2) E ta) es (.obj C fs) := fun F G H σ s Q q =>
  ha F G H σ s _ fun vs G1 H1 s1 g1 r1 x dx hx hdx ne => by
    have hx1 : upd H1 dx (.own x) x = none := by
      rw [upd_ne (fun z => ne z.symm)]
      exact hx
    have s2 : Stt K F G1 (upd (upd H1 dx (.own x)) x (.ins C dx [])) σ es := (s1.lay hdx).lay hx1
    have gx : G1 x = none := s1.gnone hx
    have rx : ∀ a o, a ≠ x → DL.rem G1 (upd (upd H1 dx (.own x)) x (.ins C dx [])) a = some o → DL.rem G1 (upd (upd H1 dx (.own x)) x (.ins C dx [])) a = some o := fun _ _ _ e => e
    -- what is another's: all but the known and the new one
    refine .inl ⟨fun a => if a = x then none else DL.rem G1 (upd (upd H1 dx (.own x)) x (.ins C dx [])) a, G1, .obo (some x) C [] :: ds.map .d, .non, .obo (some x) C fs :: ds.map .d, ?_, ⟨x, _, fs, rfl, rfl, rfl, hP⟩, ?_⟩
    · have base : Stt K (fun a => if a = x then none else DL.rem G1 (upd (upd H1 dx (.own x)) x (.ins C dx [])) a) G1 (upd (upd H1 dx (.own x)) x (.ins C dx [])) (vs.map some) (ds.map .d) := by
        refine stt_data (fun a o e => ?_) s2.g (fun a o e => ?_) r1
        · by_cases q : a = x
          · rw [if_pos q] at e; cases e
          · rw [if_neg q] at e; exact (DL.rem_some e).1
        · by_cases q : a = x
          · rw [if_pos q] at e; cases e
          · rw [if_neg q] at e; exact (DL.rem_some e).2
      refine ⟨base.f, base.g, base.dj, by rw [List.map_cons, List.length_cons, List.length_cons, base.len], fun i t e => ?_, fun i j t u nij ei ej hi hj => ?_⟩
      · cases i with
        | zero =>
          cases e
          exact ⟨_, rfl, x, dx, [], rfl, gx, if_pos rfl, upd_same, .nil, fun q e => (Option.some.inj e).symm⟩
        | succ i => exact base.sl i t e
      · cases i with
        | zero =>
          cases j with
          | zero => exact absurd rfl nij
          | succ j =>
            have ej' : (ds.map Sl.d)[j]? = some u := ej
            rw [List.getElem?_map] at ej'
            cases q : ds[j]? with
            | none => rw [q] at ej'; cases ej'
            | some d => rw [q] at ej'; cases ej'; cases hj
        | succ i =>
          have ei' : (ds.map Sl.d)[i]? = some t := ei
          rw [List.getElem?_map] at ei'
          cases q : ds[i]? with
          | none => rw [q] at ei'; cases ei'
          | some d => rw [q] at ei'; cases ei'; cases hi
    · intro v G2 H2 s3 g3 r3
      cases r3
      obtain ⟨o, ho, p, dx', fv, eo, gp, fp, hp, rf, an⟩ := s3.sl 0 _ rfl
      cases ho
      cases eo
      refine ⟨rfl, ?_⟩
      have gx2 : Same G2 (upd G2 x (.ins C dx' fv)) := same_upd gp
      have s4 : Stt K F (upd G2 x (.ins C dx' fv)) H2 σ es := by
        have keep : ∀ a o, H1 a = some o → G1 a = none → H2 a = some o ∧ G2 a = none := fun a o e g => by
          have ax : a ≠ x := fun z => by subst z; rw [hx] at e; cases e
          have adx : a ≠ dx := fun z => by subst z; rw [hdx] at e; cases e
          have fa : (if a = x then none else DL.rem G1 (upd (upd H1 dx (.own x)) x (.ins C dx [])) a) = some o := by
            rw [if_neg ax, DL.rem_of g, upd_ne ax, upd_ne adx]
            exact e
          exact ⟨s3.f a o fa, s3.dj a o fa⟩
        have nex : ∀ a o, H1 a = some o → a ≠ x := fun a o e z => by subst z; rw [hx] at e; cases e
        refine s1.after (H' := H2) (G' := upd G2 x (.ins C dx' fv)) (fun a o e => (keep a o (DL.rem_some e).1 (DL.rem_some e).2).1) (fun a o e => ?_) (fun a o e => ?_) (g3.trans gx2)
        · by_cases q : a = x
          · subst q
            rw [upd_same] at e
            cases e
            exact hp
          · rw [upd_ne q] at e
            exact s3.g a o e
        · rw [upd_ne (nex a o (DL.rem_some e).1)]
          exact (keep a o (DL.rem_some e).1 (DL.rem_some e).2).2
      exact q _ _ H2 s4 (g1.trans (g3.trans gx2)) (.obj upd_same (rf.mono gx2))
theorem xv_make {a : Sp} {C : Addr} (ha : EvA K ta es ds) (hP : R ds c f) : XvE K (fun E => tMakeS C (spOr a (FSpecX K (XI C R))) E ta) es c f := fun F G H σ s Q E q =>
  ha F G H σ s _ fun vs G1 H1 s1 g1 r1 x dx hx hdx ne => by
    have hx1 : upd H1 dx (.own x) x = none := by
      rw [upd_ne (fun z => ne z.symm)]
      exact hx
    have s2 : Stt K F G1 (upd (upd H1 dx (.own x)) x (.ins C dx [])) σ es := (s1.lay hdx).lay hx1
    have gx : G1 x = none := s1.gnone hx
    have rx : ∀ a o, a ≠ x → DL.rem G1 (upd (upd H1 dx (.own x)) x (.ins C dx [])) a = some o → DL.rem G1 (upd (upd H1 dx (.own x)) x (.ins C dx [])) a = some o := fun _ _ _ e => e
    -- what is another's: all but the known and the new one
    refine .inr ⟨fun a => if a = x then none else DL.rem G1 (upd (upd H1 dx (.own x)) x (.ins C dx [])) a, G1, .obo (some x) C [] :: ds.map .d, c, f, ?_, ⟨x, _, rfl, hP⟩, ?_⟩
    · have base : Stt K (fun a => if a = x then none else DL.rem G1 (upd (upd H1 dx (.own x)) x (.ins C dx [])) a) G1 (upd (upd H1 dx (.own x)) x (.ins C dx [])) (vs.map some) (ds.map .d) := by
        refine stt_data (fun a o e => ?_) s2.g (fun a o e => ?_) r1
        · by_cases q : a = x
          · rw [if_pos q] at e; cases e
          · rw [if_neg q] at e; exact (DL.rem_some e).1
        · by_cases q : a = x
          · rw [if_pos q] at e; cases e
          · rw [if_neg q] at e; exact (DL.rem_some e).2
      refine ⟨base.f, base.g, base.dj, by rw [List.map_cons, List.length_cons, List.length_cons, base.len], fun i t e => ?_, fun i j t u nij ei ej hi hj => ?_⟩
      · cases i with
        | zero =>
          cases e
          exact ⟨_, rfl, x, dx, [], rfl, gx, if_pos rfl, upd_same, .nil, fun q e => (Option.some.inj e).symm⟩
        | succ i => exact base.sl i t e
      · cases i with
        | zero =>
          cases j with
          | zero => exact absurd rfl nij
          | succ j =>
            have ej' : (ds.map Sl.d)[j]? = some u := ej
            rw [List.getElem?_map] at ej'
            cases q : ds[j]? with
            | none => rw [q] at ej'; cases ej'
            | some d => rw [q] at ej'; cases ej'; cases hj
        | succ i =>
          have ei' : (ds.map Sl.d)[i]? = some t := ei
          rw [List.getElem?_map] at ei'
          cases q : ds[i]? with
          | none => rw [q] at ei'; cases ei'
          | some d => rw [q] at ei'; cases ei'; cases hi
    · intro dd G2 H2 a1 a2 a3 a4 a5 a6 a7
      have keep : ∀ a o, H1 a = some o → G1 a = none → (if a = x then none else DL.rem G1 (upd (upd H1 dx (.own x)) x (.ins C dx [])) a) = some o := fun a o e g => by
        have ax : a ≠ x := fun z => by subst z; rw [hx] at e; cases e
        have adx : a ≠ dx := fun z => by subst z; rw [hdx] at e; cases e
        rw [if_neg ax, DL.rem_of g, upd_ne ax, upd_ne adx]
        exact e
      refine q dd G2 H2 (s1.after (fun a o e => a1 a o (keep a o (DL.rem_some e).1 (DL.rem_some e).2)) a2 (fun a o e => a3 a o (keep a o (DL.rem_some e).1 (DL.rem_some e).2)) a4) (g1.trans a4) a5 ?_ a7
      cases hq : F dd with
      | none => rfl
      | some o =>
        have := keep dd o (s1.f dd o hq) (s1.dj dd o hq)
        have a6' : (if dd = x then none else DL.rem G1 (upd (upd H1 dx (.own x)) x (.ins C dx [])) dd) = none := a6
        rw [this] at a6'
        cases a6'
end
end DL
namespace L2
open PySem PySem.Spec PyProof.Rows DL
section
variable {X : Cx} {CX : CXT} {k n : Nat} {f C : Addr} {fd : FuncData} {ps ks : List Str} {sp : Sp} {E : St → XK} {x : Str} {p pos : Pos} {e : Expr} {es : List Expr} {kws : List Keyword} {t tk : TA} {g : List Value → List Value → List Value} {gV : List V → List V → List V}
theorem run_fnNS {pins : List (Addr × Obj)} {σ : St} {H : Hp} {s : Shared} {Q : VK} {us ws : List Value} {vs zs : List V} (F : FnOk X.prog X.w X.K X.mg X.base CX k f fd ps sp) (hr : Room k X.A) (hb : KBn X.K fd ps n ks g gV) (hx : PassesAt CX X σ (E σ))
    (I : Inv X pins σ H s) (r : Vals vs us) (rz : Vals zs ws) (l1 : vs.length = n) (l2 : zs.length = ks.length) (h : sp (gV vs zs) H Q (E σ)) : wpAny (model X.prog X.w) X.A (call (.ref f) us (ks.zip ws)) (EP X pins σ Q) X.xe s := by
  have r2 := hb.rel r rz
  refine wpAny_call (codeAny_mono (F.run X.A X.stack s H ⟨us, ks.zip ws⟩ (g us ws) (gV vs zs) Q (E σ) hr I.env0 (hb.to s us ws I.kIn (r.length.symm.trans l1) (rz.length.symm.trans l2)) r2 h) fun r s' hq => ?_)
  cases r with
  | error e => exact hx pins H s e s' I hq
  | ok fl =>
    cases fl with
    | ret u => exact I.after hq
    | next => exact False.elim hq
    | brk => exact False.elim hq
    | cont => exact False.elim hq
/-- f(e, .., k = v, ..), where what is raised is wished for at the caller's slots -/
theorem pe_callNS (F : FnOk X.prog X.w X.K X.mg X.base CX k f fd ps sp) (hr : Room k X.A) (hg : Gl X x) (hm : X.mg x = some (.ref f)) (hk : PySem.W.keepIn X.K (.ref f) = true) (hb : KBn X.K fd ps n ks g gV) (hx : ∀ σ, PassesAt CX X σ (E σ))
    (ha : PA X (e :: es) t) (hkw : PK X kws tk) (hall : (backToKw pos (keywordEach kws X.env)).all (·.1.isSome) = true := by rfl) (hks : (backToKw pos (keywordEach kws X.env)).filterMap (·.1) = ks := by rfl)
    (hdb : (x == ("__debug__" : Str)) = false := by decide) (he : starEach (e :: es) X.env = (false, eval e X.env) :: starEach es X.env := by rfl)
    (hpl : ((backTo pos (starEach (e :: es) X.env)).any (·.1) || (backToKw pos (keywordEach kws X.env)).any (·.1.isNone)) = false := by rfl) :
    PE X (.Call (.Name x p) (e :: es) kws pos) (tCallNS n ks.length sp gV E t tk) := by
  refine ⟨fun pins s σ H Q I h => ?_⟩
  refine wpAny_Call_Name_kw (ld_glob I hg hm ?_ hdb)
  refine PySem.W.callWith_KW (h₀ := X.base) I.ok.mod.kin hk hall (thn (ha.run pos pins s σ H _ I h) fun us s1 ⟨vs, H1, I1, r, q⟩ => ?_) hpl he
  refine thn (hkw.run pos pins s1 σ H1 _ I1 q) fun ws s2 ⟨zs, H2, I2, rz, l1, l2, q2⟩ => ⟨I2.kIn, ?_⟩
  rw [hks]
  exact run_fnNS F hr hb (hx σ) I2 r rz l1 l2 q2
theorem run_makeS {pins : List (Addr × Obj)} {σ : St} {H : Hp} {s : Shared} {Q : VK} {us : List Value} {vs : List V} (M : Mk X.K C f) (F : FnOk X.prog X.w X.K X.mg X.base CX k f fd ps sp) (hr : Room (k + 1) X.A) (hb : Binds X.K fd ps [])
    (hx : PassesAt CX X σ (E σ)) (I : Inv X pins σ H s) (r : Vals vs us)
    (h : ∀ x dx, H x = none → H dx = none → dx ≠ x → sp (.ref x :: vs) (upd (upd H dx (.own x)) x (.ins C dx [])) (fun v H2 => v = .non ∧ Q (.ref x) H2) (E σ)) :
    wpAny (model X.prog X.w) X.A (call (.ref C) us) (EP X pins σ Q) X.xe s := by
  have hq := h (s.heap.objs.size + 1) s.heap.objs.size (I.hok.fresh (Nat.le_succ _)) (I.hok.fresh (Nat.le_refl _)) (Nat.ne_of_lt (Nat.lt_succ_self _))
  have I2 := Inv.made (C := C) I
  have r2 : Vals (V.ref (s.heap.objs.size + 1) :: vs) (Value.ref (s.heap.objs.size + 1) :: us) := .cons rfl r
  have hl : (Value.ref (s.heap.objs.size + 1) :: us).length = ps.length := by
    have e := r2.length
    rw [F.len _ _ _ _ hq] at e
    exact e.symm
  have b := hb { s with heap := _ } (Value.ref (s.heap.objs.size + 1) :: us) I2.kIn (by rw [List.append_nil]; exact hl)
  rw [List.append_nil] at b
  refine wpAny_call (make_map (f := f) I.kIn M.makes M.init (beq_iff_eq.mp M.fn) (codeAny_mono (F.run _ X.stack _ _ ⟨Value.ref (s.heap.objs.size + 1) :: us, []⟩ (Value.ref (s.heap.objs.size + 1) :: us) _ _ (E σ) (hr.make C us [])
    (I2.env0.make C us []) b r2 hq) fun r s' hq' => ?_))
  cases r with
  | error e => exact hx pins _ _ e s' I2 hq'
  | ok fl =>
    cases fl with
    | ret u =>
      obtain ⟨v, H', I3, rv, ev, q3⟩ := I2.after hq'
      subst ev
      exact ⟨rv, ⟨V.ref (s.heap.objs.size + 1), H', I3, rfl, q3⟩⟩
    | next => exact False.elim hq'
    | brk => exact False.elim hq'
    | cont => exact False.elim hq'
theorem pe_makeS (M : Mk X.K C f) (F : FnOk X.prog X.w X.K X.mg X.base CX k f fd ps sp) (hr : Room (k + 1) X.A) (hg : Gl X x) (hm : X.mg x = some (.ref C)) (hb : Binds X.K fd ps []) (hx : ∀ σ, PassesAt CX X σ (E σ))
    (ha : PA X (e :: es) t) (hdb : (x == ("__debug__" : Str)) = false := by decide) (he : starEach (e :: es) X.env = (false, eval e X.env) :: starEach es X.env := by rfl) (hpl : (backTo pos (starEach es X.env)).any (·.1) = false := by rfl) :
    PE X (.Call (.Name x p) (e :: es) [] pos) (tMakeS C sp E t) := by
  refine ⟨fun pins s σ H Q I h => ?_⟩
  refine wpAny_Call_Name_kw (ld_glob I hg hm ?_ hdb)
  refine PySem.W.callWith_K (h₀ := X.base) I.ok.mod.kin M.kp (thn (ha.run pos pins s σ H _ I h) fun us s1 ⟨vs, H1, I1, r, q⟩ => ⟨I1.kIn, ?_⟩) he hpl
  exact run_makeS M F hr hb (hx σ) I1 r q
end
end L2
namespace DL
open PySem L2
/-! ### except suites -/
section
variable {K : PySem.W.Frag} {F G H : Hp} {σ : L2.St} {es : List Sl} {dd : Addr} {f : Str}
/-- the exception's dict is held -/
theorem Stt.hold (s : Stt K F G H σ es) (h : H dd = some (xdF f)) (hg : G dd = none) (hf : F dd = none) : Stt K (upd F dd (xdF f)) G H σ es where
  f := fun a o e => by
    by_cases q : a = dd
    · subst q
      rw [upd_same] at e
      cases e
      exact h
    · rw [upd_ne q] at e
      exact s.f a o e
  g := s.g
  dj := fun a o e => by
    by_cases q : a = dd
    · subst q
      exact hg
    · rw [upd_ne q] at e
      exact s.dj a o e
  len := s.len
  sl := fun i t e => by
    obtain ⟨x, hx, k⟩ := s.sl i t e
    refine ⟨x, hx, ?_⟩
    cases t with
    | un => trivial
    | d x => exact k
    | own a xs =>
      obtain ⟨p, vs, e1, e2, e3, e4, e5, e6⟩ := k
      refine ⟨p, vs, e1, e2, ?_, e4, e5, e6⟩
      rw [upd_ne fun q => by rw [q, h] at e4; cases e4]
      exact e3
    | obo a C fs =>
      obtain ⟨p, dx, vs, e1, e2, e3, e4, e5, e6⟩ := k
      refine ⟨p, dx, vs, e1, e2, ?_, e4, e5, e6⟩
      rw [upd_ne fun q => by rw [q, h] at e4; cases e4]
      exact e3
  ow := s.ow
/-- let go -/
theorem Stt.loose {o : HO} (s : Stt K (upd F dd o) G H σ es) (hf : F dd = none) : Stt K F G H σ es where
  f := fun a u e => s.f a u (by rw [upd_ne (ne_of_none e hf)]; exact e)
  g := s.g
  dj := fun a u e => s.dj a u (by rw [upd_ne (ne_of_none e hf)]; exact e)
  len := s.len
  sl := fun i t e => by
    obtain ⟨x, hx, k⟩ := s.sl i t e
    exact ⟨x, hx, k.grow (Same.refl _) (fun q u _ _ e => e) fun q g _ h => ⟨g, (upd_none h).2⟩⟩
  ow := s.ow
theorem Stt.undo (s : Stt K F G H σ es) (i : Nat) (x : Option V) : Stt K F G H (σ.set i x) (es.set i .un) where
  f := s.f
  g := s.g
  dj := s.dj
  len := by rw [List.length_set, List.length_set]; exact s.len
  sl := fun j t e => by
    by_cases q : i = j
    · subst q
      have hl : i < es.length := by
        have := (List.getElem?_eq_some_iff.mp e).1
        rwa [List.length_set] at this
      rw [List.getElem?_set_self hl] at e
      cases e
      exact ⟨x, List.getElem?_set_self (by rw [s.len]; exact hl), trivial⟩
    · rw [List.getElem?_set_ne q] at e ⊢
      exact s.sl j t e
  ow := fun j k t u nj ej ek hj hk => by
    have out : ∀ (j : Nat) z, (es.set i .un)[j]? = some z → z.isOwn = true → i ≠ j ∧ es[j]? = some z := fun j z e h => by
      by_cases q : i = j
      · subst q
        have hl : i < es.length := by
          have := (List.getElem?_eq_some_iff.mp e).1
          rwa [List.length_set] at this
        rw [List.getElem?_set_self hl] at e
        cases e
        cases h
      · rw [List.getElem?_set_ne q] at e
        exact ⟨q, e⟩
    obtain ⟨a1, a2⟩ := out j t ej hj
    obtain ⟨b1, b2⟩ := out k u ek hk
    rw [List.getElem?_set_ne a1, List.getElem?_set_ne b1]
    exact s.ow j k t u nj a2 b2 hj hk
end
/-- within an except suite: the exception at a in slot i, its dict at dd -/
def Hld (F : Hp) (σ : L2.St) (a dd : Addr) (i : Nat) (f : Str) : Prop := F dd = some (xdF f) ∧ σ[i]? = some (some (.ref a))
def EvH (K : PySem.W.Frag) (a dd : Addr) (i : Nat) (f : Str) (te : TE) (es : List Sl) (d : Dt) : Prop := ∀ F G H σ, Stt K F G H σ es → Hld F σ a dd i f → ∀ Q : VK, (∀ v G' H', Stt K F G' H' σ es → Same G G' → Rep K G' v d → Q v H') → te σ H Q
def SMH {ρ : Type} (K : PySem.W.Frag) (a dd : Addr) (i : Nat) (f : Str) (t : TS) (es : List Sl) (m : Option ρ) (oc : ρ → Res) : Prop := ∀ r, m = some r → ∀ F G H σ D, Stt K F G H σ es → Hld F σ a dd i f → Good K F G D (oc r) → t D σ H
section
variable {K : PySem.W.Frag} {a dd c : Addr} {i : Nat} {f : Str} {te ta tb : TE} {es fs : List Sl} {d x y z : Dt} {ρ : Type} {m p q : Option ρ} {oc : ρ → Res} {t u tz : TS}
theorem evh_of (h : Ev K te es d) : EvH K a dd i f te es d := fun F G H σ s _ Q q => h F G H σ s Q q
theorem evh_fld : EvH K a dd i f (tXf a (.ref c) (some dd) c "field" (tVar i)) es (.str f) := fun F G H σ s h Q q =>
  ⟨_, h.2, rfl, rfl, dd, _, .str f, rfl, s.f _ _ h.1, by rfl, q _ G H s (Same.refl _) (.str f)⟩
theorem evh_op {r : R2} (ha : EvH K a dd i f ta es x) (hb : EvH K a dd i f tb es y) (hr : R2D K r x y z) : EvH K a dd i f (tOp r ta tb) es z := fun F G H σ s h Q q =>
  ha F G H σ s h _ fun x G1 H1 s1 g1 r1 => hb F G1 H1 σ s1 h _ fun y G2 H2 s2 g2 r2 => hr F G2 H2 σ es x y s2 (r1.mono g2) r2 Q fun v G3 H3 s3 g3 r3 => q v G3 H3 s3 (g1.trans (g2.trans g3)) r3
theorem evh_eqS {g h : Str} (ha : EvH K a dd i f ta es (.str g)) (hb : EvH K a dd i f tb es (.str h)) : EvH K a dd i f (tOp rEq ta tb) es (.bl (decide (g = h))) := by
  have e : decide (g = h) = decide (fl (.str g) = fl (.str h)) := dec_congr ⟨fun e => by rw [e], fun e => by cases e; rfl⟩
  rw [e]
  exact evh_op ha hb (r2_eq rfl rfl rfl)
theorem evh_neS {g h : Str} (ha : EvH K a dd i f ta es (.str g)) (hb : EvH K a dd i f tb es (.str h)) : EvH K a dd i f (tOp rNe ta tb) es (.bl (!decide (g = h))) := by
  have e : decide (g = h) = decide (fl (.str g) = fl (.str h)) := dec_congr ⟨fun e => by rw [e], fun e => by cases e; rfl⟩
  rw [e]
  exact evh_op ha hb (r2_ne rfl rfl rfl)
theorem smh_of (h : SM K t es m oc) : SMH K a dd i f t es m oc := fun r e F G H σ D s _ q => h r e F G H σ D s q
theorem smh_one (h : SMH K a dd i f (tSeq t tNext) es m oc) : SMH K a dd i f t es m oc := h
theorem smh_ret {r : ρ} (h : EvH K a dd i f te es d) (w : Wk es fs) (e : oc r = .rt d fs) : SMH K a dd i f (tSeq (tRet te) tz) es (some r) oc := fun r' e' F G H σ D s hh q => by
  cases e'
  rw [e] at q
  exact h F G H σ s hh _ fun v G1 H1 s1 g1 r1 => q v G1 H1 σ (s1.wk w) g1 r1
theorem smh_if {b : Bool} (h : EvH K a dd i f te es (.bl b)) (h1 : b = true → SMH K a dd i f (tSeq t tz) es p oc) (h2 : b = false → SMH K a dd i f (tSeq u tz) es q oc) : SMH K a dd i f (tSeq (tIfS (tB te) t u) tz) es (if b = true then p else q) oc := fun r e F G H σ D s hh k =>
  h F G H σ s hh _ fun v G1 H1 s1 g1 r1 => by
    cases r1
    refine ⟨b, rfl, ?_⟩
    cases b with
    | true =>
      show t _ σ H1
      exact h1 rfl r e F G1 H1 σ D s1 hh (k.up g1)
    | false =>
      show u _ σ H1
      exact h2 rfl r e F G1 H1 σ D s1 hh (k.up g1)
end
def tryX {ρ : Type} (x : Option Str) (h : Str → Option ρ) (m : Option ρ) : Option ρ := match x with
  | some f => h f
  | none => m
section
variable {K : PySem.W.Frag} {ta tb : TE} {es : List Sl}
theorem fl_dO {i j : Option Int} : fl (dO Dt.int i) = fl (dO Dt.int j) ↔ i = j := by
  constructor
  · intro h
    cases i with
    | none => cases j with
      | none => rfl
      | some y => exact V.noConfusion (show V.non = V.int y from h)
    | some x => cases j with
      | none => exact V.noConfusion (show V.int x = V.non from h)
      | some y => exact congrArg some (V.int.inj (show V.int x = V.int y from h))
  · intro h
    rw [h]
theorem scal_dO {i j : Option Int} : scal (fl (dO Dt.int i)) (fl (dO Dt.int j)) = true := by
  cases i <;> cases j <;> rfl
theorem isFl_dO {i : Option Int} : isFl (dO Dt.int i) = true := by
  cases i <;> rfl
theorem ev_eqOI {i j : Option Int} (ha : Ev K ta es (dO Dt.int i)) (hb : Ev K tb es (dO Dt.int j)) : Ev K (tOp rEq ta tb) es (.bl (decide (i = j))) := by
  have h := ev_op ha hb (r2_eq (K := K) scal_dO isFl_dO isFl_dO)
  rwa [dec_congr fl_dO] at h
theorem ev_neOI {i j : Option Int} (ha : Ev K ta es (dO Dt.int i)) (hb : Ev K tb es (dO Dt.int j)) : Ev K (tOp rNe ta tb) es (.bl (!decide (i = j))) := by
  have h := ev_op ha hb (r2_ne (K := K) scal_dO isFl_dO isFl_dO)
  rwa [dec_congr fl_dO] at h
end
/-- try: call; rest / except C as e: suite; the exception's slot is i -/
theorem sm_try {ρ : Type} {K : PySem.W.Frag} {es : List Sl} {tc : (L2.St → XK) → TE} {rest : TS} {ts : Addr → Value → Option Addr → TS} {c : Addr} {i : Nat} {x : Option Str} {m : Option ρ} {hm : Str → Option ρ} {oc : ρ → Res}
    (he : PySem.W.exmOne K (.ref c) (.ref c) = some true) (hu : ∃ z, es[i]? = some z ∧ z = .un)
    (hx : ∀ f, x = some f → XvE K tc es c f) (hn : x = none → ∀ E, SM K (tSeq (tDrop (tc E)) rest) es m oc)
    (hh : ∀ a dd f, SMH K a dd i f (ts a (.ref c) (some dd)) es (hm f) oc)
    (ho : ∀ r fs, oc r = .nx fs → fs[i]? = some .un) (hno : ∀ r, (∃ fs, oc r = .nx fs) ∨ ∃ d fs, oc r = .rt d fs) :
    SM K (fun D σ H => (fun W => tSeq (tDrop (tc (WE W))) rest) (wAs K (.ref c) i ts (fun _ _ _ _ => False) D) D σ H) es (tryX x hm m) oc := fun r e F G H σ D s q => by
  obtain ⟨z, hz, rfl⟩ := hu
  cases x with
  | none => exact hn rfl _ r e F G H σ D s q
  | some f =>
    have e : hm f = some r := e
    refine hx f rfl F G H σ s _ _ fun dd G' H' s1 g1 h1 f1 n1 => ?_
    refine ⟨true, he, fun _ a ha => ?_, fun z => by cases z⟩
    have hi : i < σ.length := by rw [s.len]; exact (List.getElem?_eq_some_iff.mp hz).1
    have es' : es.set i .un = es := List.ext_getElem? fun k => by
      by_cases q : i = k
      · subst q
        rw [List.getElem?_set_self (List.getElem?_eq_some_iff.mp hz).1, hz]
      · rw [List.getElem?_set_ne q]
    have s2 : Stt K (upd F dd (xdF f)) G' H' (σ.set i (some (.ref a))) es := by
      have := (s1.hold h1 n1 f1).undo i (some (.ref a))
      rw [es'] at this
      exact this
    refine hh a dd f r e _ G' H' _ _ s2 ⟨upd_same, List.getElem?_set_self hi⟩ ?_
    rcases hno r with ⟨fs, w⟩ | ⟨d, fs, w⟩
    · have wi := ho r fs w
      rw [w] at q ⊢
      intro G2 H2 σ2 s3 g2
      refine q G2 H2 (σ2.set i none) ?_ (g1.trans g2)
      have := (s3.loose f1).undo i none
      have e3 : fs.set i .un = fs := List.ext_getElem? fun k => by
        by_cases q : i = k
        · subst q
          rw [List.getElem?_set_self (List.getElem?_eq_some_iff.mp wi).1, wi]
        · rw [List.getElem?_set_ne q]
      rw [e3] at this
      exact this
    · rw [w] at q ⊢
      intro v G2 H2 σ2 s3 g2 r2
      exact q v G2 H2 σ2 (s3.loose f1) (g1.trans g2) r2
end DL
namespace L2
open PySem PySem.Spec PyProof.Rows DL
theorem smx_run {K : PySem.W.Frag} {t : TS} {E : XK} {es : List Sl} {c : Addr} {m : Option Str} {g : Str} (h : m = some g) (k : SMX K t E es c m) : SEvX K t E es c g := k g h
theorem exm_self {K : PySem.W.Frag} {S : Addr} (h1 : PySem.W.subIn K (.ref S) (.type "BaseException") = some true) (h2 : PySem.W.isClsIn K S = true) (h3 : PySem.W.typeIn K (.ref S) = some (.type "type")) (h4 : PySem.W.subIn K (.ref S) (.ref S) = some true) :
    PySem.W.exmOne K (.ref S) (.ref S) = some true := by
  have e1 : (PySem.W.subIn K (.ref S) (.type "BaseException") == some true) = true := by rw [h1] <;> rfl
  have e2 : ((PySem.W.clsIn K S).isSome && PySem.W.typeIn K (.ref S) == some (.type "type")) = true := by
    have h2' : (PySem.W.clsIn K S).isSome = true := h2
    rw [h2', h3] <;> rfl
  show (if (PySem.W.subIn K (.ref S) (.type "BaseException") == some true) = true then (if ((PySem.W.clsIn K S).isSome && PySem.W.typeIn K (.ref S) == some (.type "type")) = true then PySem.W.subIn K (.ref S) (.ref S) else none) else none) = some true
  rw [if_pos e1, if_pos e2]
  exact h4
section
variable {X : Cx} {k n : Nat} {f C : Addr} {fd : FuncData} {ps ks : List Str} {sp : Sp} {x nm : Str} {p pos : Pos} {e : Expr} {es : List Expr} {kws : List Keyword} {t tk : TA} {g : List Value → List Value → List Value} {gV : List V → List V → List V}
theorem sm_tryF {R : Type} {K : PySem.W.Frag} {es : List Sl} {tc : (L2.St → XK) → TE} {rest : TS} {ts : Addr → Value → Option Addr → TS} {c : Addr} {i : Nat} {x : Option Str} {m : Option (Fl Unit R)} {hm : Str → Option (Fl Unit R)} {env : Unit → List Sl} {ed : R → Dt} {ee : R → List Sl}
    (he : PySem.W.exmOne K (.ref c) (.ref c) = some true) (hu : es[i]? = some .un) (he2 : (env ())[i]? = some .un) (hx : ∀ f, x = some f → XvE K tc es c f) (hn : x = none → ∀ E, SM K (tSeq (tDrop (tc E)) rest) es m (loopRes env ed ee))
    (hh : ∀ a dd f, SMH K a dd i f (ts a (.ref c) (some dd)) es (hm f) (loopRes env ed ee)) :
    SM K (fun D σ H => (fun W => tSeq (tDrop (tc (WE W))) rest) (wAs K (.ref c) i ts (fun _ _ _ _ => False) D) D σ H) es (tryX x hm m) (loopRes env ed ee) :=
  sm_try he ⟨_, hu, rfl⟩ hx hn hh (fun r fs h => by
    cases r with
    | nx s => cases h; exact he2
    | bk s => cases h; exact he2
    | rt r => cases h) (fun r => by
    cases r with
    | nx s => exact .inl ⟨_, rfl⟩
    | bk s => exact .inl ⟨_, rfl⟩
    | rt r => exact .inr ⟨_, _, rfl⟩)
/-- a call that may raise, in a def that lets it out -/
theorem smx_callS {K : PySem.W.Frag} {E : XK} {es : List Sl} {c : Addr} {sp : Sp} {ta : TA} {E' : L2.St → XK} {tz : TS} {x m : Option Str} (hE : E' = fun _ => E) (hx : ∀ f, x = some f → XvE K (fun E => tCallS sp E ta) es c f) (hn : x = none → SMX K (tSeq (tDrop (tCallS sp E' ta)) tz) E es c m) :
    SMX K (tSeq (tDrop (tCallS sp E' ta)) tz) E es c (tryX x some m) := fun f e F G H σ D s q => by
  cases x with
  | none => exact hn rfl f e F G H σ D s q
  | some g =>
    have e : some g = some f := e
    cases e
    subst hE
    exact hx _ rfl F G H σ s _ (fun _ => E) fun dd G' H' s' g' h1 f1 n1 => q dd G' H' s'.f s'.g s'.dj g' h1 f1 n1
theorem smx_drop {K : PySem.W.Frag} {E : XK} {es : List Sl} {c : Addr} {te : TE} {d : Dt} {tz : TS} {m : Option Str} (h : Ev K te es d) (k : SMX K tz E es c m) : SMX K (tSeq (tDrop te) tz) E es c m := fun r e F G H σ D s q =>
  h F G H σ s _ fun v G1 H1 s1 g1 r1 => k r e F G1 H1 _ D s1 (q.up g1)
/-- the call of a try's body -/
def PBody (X : Cx) (call : Expr) (tc : (St → XK) → TE) : Prop := ∀ (W : WX) (pn : List (Addr × Obj)) (xe : Value → Shared → Prop), Takes (X.tr pn xe) W → PE (X.tr pn xe) call (tc (WE W))
theorem pb_call (F : FnOk X.prog X.w X.K X.mg X.base (L2.CX X.prog X.w) k f fd ps sp) (hr : Room k X.A) (hg : Gl X x) (hm : X.mg x = some (.ref f)) (hk : PySem.W.keepIn X.K (.ref f) = true) (hb : Binds X.K fd ps [])
    (ha : ∀ pn xe, PA (X.tr pn xe) (e :: es) t) (hdb : (x == ("__debug__" : Str)) = false := by decide) (he : starEach (e :: es) X.env = (false, eval e X.env) :: starEach es X.env := by rfl) (hpl : (backTo pos (starEach es X.env)).any (·.1) = false := by rfl) :
    PBody X (.Call (.Name x p) (e :: es) [] pos) (fun E => tCallS sp E t) := fun W pn xe tk => pe_callS (X := X.tr pn xe) F hr hg hm hk hb (fun σ => passAt tk σ) (ha pn xe) hdb he hpl
theorem pb_callN (F : FnOk X.prog X.w X.K X.mg X.base (L2.CX X.prog X.w) k f fd ps sp) (hr : Room k X.A) (hg : Gl X x) (hm : X.mg x = some (.ref f)) (hk : PySem.W.keepIn X.K (.ref f) = true) (hb : KBn X.K fd ps n ks g gV)
    (ha : ∀ pn xe, PA (X.tr pn xe) (e :: es) t) (hkw : ∀ pn xe, PK (X.tr pn xe) kws tk) (hall : (backToKw pos (keywordEach kws X.env)).all (·.1.isSome) = true := by rfl) (hks : (backToKw pos (keywordEach kws X.env)).filterMap (·.1) = ks := by rfl)
    (hdb : (x == ("__debug__" : Str)) = false := by decide) (he : starEach (e :: es) X.env = (false, eval e X.env) :: starEach es X.env := by rfl)
    (hpl : ((backTo pos (starEach (e :: es) X.env)).any (·.1) || (backToKw pos (keywordEach kws X.env)).any (·.1.isNone)) = false := by rfl) :
    PBody X (.Call (.Name x p) (e :: es) kws pos) (fun E => tCallNS n ks.length sp gV E t tk) := fun W pn xe tk' => pe_callNS (X := X.tr pn xe) F hr hg hm hk hb (fun σ => passAt tk' σ) (ha pn xe) (hkw pn xe) hall hks hdb he hpl
theorem pb_make (M : Mk X.K C f) (F : FnOk X.prog X.w X.K X.mg X.base (L2.CX X.prog X.w) k f fd ps sp) (hr : Room (k + 1) X.A) (hg : Gl X x) (hm : X.mg x = some (.ref C)) (hb : Binds X.K fd ps [])
    (ha : ∀ pn xe, PA (X.tr pn xe) (e :: es) t) (hdb : (x == ("__debug__" : Str)) = false := by decide) (he : starEach (e :: es) X.env = (false, eval e X.env) :: starEach es X.env := by rfl) (hpl : (backTo pos (starEach es X.env)).any (·.1) = false := by rfl) :
    PBody X (.Call (.Name x p) (e :: es) [] pos) (fun E => tMakeS C sp E t) := fun W pn xe tk => pe_makeS (X := X.tr pn xe) M F hr hg hm hb (fun σ => passAt tk σ) (ha pn xe) hdb he hpl
/-- an except suite -/
def PHand (X : Cx) (body : List Stmt) (ts : Addr → Value → Option Addr → TS) : Prop := ∀ (a : Addr) (oe : Obj) (cls : Value) (d : Option Addr) (pn : List (Addr × Obj)), Zc cls d oe → (∃ vs, oe.data = .fields vs) → PSs (X.suite a ((a, oe) :: pn)) body (ts a cls d)
variable {fI : Addr} {i : Nat} {eo : Expr} {p2 p3 p4 p5 : Pos} {s0 : Str} {te : TE} {rest : List Stmt} {kk : Nat}
/-- return e.field -/
theorem ph_ret (T : PySem.DLX.ExcT X.prog X.K X.mg nm C fI) (he : ∀ a pn, PE (X.suite a pn) eo (tVar i)) (hb : attributeBase eo "field" X.env (eval eo X.env) = eval eo X.env := by rfl) :
    PHand X [.Return (some (.Attribute eo "field" p)) p2] (fun a cls d => tSeq (tRet (tXf a cls d C "field" (tVar i))) tNext) := fun a oe cls d pn hz hf =>
  pss_cons (ps_ret (pe_xf (xfC_of T) T.noN hz hf (he _ _) hb)) pss_nil
/-- return e.field == '..' -/
theorem ph_retEq (T : PySem.DLX.ExcT X.prog X.K X.mg nm C fI) (he : ∀ a pn, PE (X.suite a pn) eo (tVar i)) (hb : attributeBase eo "field" X.env (eval eo X.env) = eval eo X.env := by rfl) :
    PHand X [.Return (some (.Compare (.Attribute eo "field" p) [.Eq] [.Constant (.str s0) kk p3] p4)) p2] (fun a cls d => tSeq (tRet (tOp rEq (tXf a cls d C "field" (tVar i)) (tC (.str s0)))) tNext) := fun a oe cls d pn hz hf =>
  pss_cons (ps_ret (pe_cmpR op_eq (pe_xf (xfC_of T) T.noN hz hf (he _ _) hb) pe_str (nomark _))) pss_nil
/-- if e.field != '..': return .. -/
theorem ph_ifNe (T : PySem.DLX.ExcT X.prog X.K X.mg nm C fI) (he : ∀ a pn, PE (X.suite a pn) eo (tVar i)) (hrt : ∀ a pn, PSs (X.suite a pn) rest t') (hb : attributeBase eo "field" X.env (eval eo X.env) = eval eo X.env := by rfl) :
    PHand X [.If (.Compare (.Attribute eo "field" p) [.NotEq] [.Constant (.str s0) kk p3] p4) rest [] p2] (fun a cls d => tSeq (tIfS (tB (tOp rNe (tXf a cls d C "field" (tVar i)) (tC (.str s0)))) t' tNext) tNext) := fun a oe cls d pn hz hf =>
  pss_cons (ps_if (pt_cmpR op_ne (pe_xf (xfC_of T) T.noN hz hf (he _ _) hb) pe_str (nomark _)) (hrt _ _) pss_nil) pss_nil
variable {b₀ : Stmt} {suite : List Stmt} {np pos' pos2 pos3 : Pos} {call : Expr} {tc : (St → XK) → TE} {ts : Addr → Value → Option Addr → TS} {trest : TS} {y : Str}
/-- try: call; rest / except C as e: suite -/
theorem ps_try (T : PySem.DLX.ExcT X.prog X.K X.mg nm C fI) (hs : X.stack = X.env :: X.outer) (hf : X.env.frame = some X.env.locals) (hN : X.N.Nodup) (hi : X.N[i]? = some y) (hln : X.env.kindOf y = some .local) (hg : Gl X nm) (hdb : (nm == ("__debug__" : Str)) = false)
    (hb : PBody X call tc) (hr : ∀ pn xe, PSs (X.tr pn xe) rest trest) (hh : PHand X (b₀ :: suite) ts) (hsw : ∀ pn xe, swapsWith call none pos3.line (X.tr pn xe).env = pure false := by intro _ _; rfl) :
    PS X (.Try (.Expr call pos3 :: rest) [.ExceptHandler (some (.Name nm np)) (some y) (b₀ :: suite) pos'] [] [] pos) (fun D σ H => (fun W => tSeq (tDrop (tc (WE W))) trest) (wAs X.K (.ref C) i ts (fun _ _ _ _ => False) D) D σ H) :=
  ps_try_as hs hf hN hi hln ⟨hg, hdb, .inl T.gC⟩ takes0 (fun W pn xe tk _ => pss_cons (ps_expr (hb W pn xe tk) (hsw pn xe)) (hr pn xe)) hh
end
end L2

/-! Dl11: comprehensions of several clauses -/
namespace DL
open PySem PySem.Spec PyProof.Rows L2
/-- what a clause does with the list at D, up to N -/
abbrev BD := L2.St → Hp → Addr → (Hp → Prop) → Prop
def bElt (tt : TT) (te : TE) : BD := fun σ H D N => tt σ H fun b H1 => if b = true then te σ H1 fun y H2 => ∃ acc, H2 D = some (.lst acc) ∧ acc.length < sizeLine ∧ N (upd H2 D (.lst (acc ++ [y]))) else N H1
def bLoop (J : It) (g : TG) (vs : List Nat) (b : BD) : BD := fun σ H D N => ∃ W : Nat → Nat → Hp → Prop, (∃ m, W 0 m H) ∧ ∀ i m H1, W i m H1 →
  (J.stop i H1 ∧ N H1) ∨ (J.go i H1 ∧ ∃ N1 : Hp → Prop, (∀ H', N1 H' → ∃ m', m' < m ∧ W (i + 1) m' H') ∧ ∀ x H', J.yld i H1 x H' → g x (L2.wipe σ vs) H' fun σ2 H2 => L2.wipe σ2 vs = L2.wipe σ vs ∧ b σ2 H2 D N1)
def bFor (tt : TT) (wi : TI) (g : TG) (vs : List Nat) (b : BD) : BD := fun σ H D N => tt σ H fun c H1 => if c = true then wi σ H1 fun J H2 => bLoop J g vs b σ H2 D N else N H1
def tCmp (wi : TI) (g : TG) (vs : List Nat) (b : BD) : TE := fun σ H Q => wi σ H fun J H1 => ∀ D, H1 D = none → bLoop J g vs b σ (upd H1 D (.lst [])) D fun H2 => Q (.ref D) H2
abbrev NoX : Value → Shared → Prop := fun _ _ => False
abbrev BP := (Shared → Prop) → Shared → Prop
section
variable (M : Model) (A : Around) (env : Env)
def ifsK (ifs : List Expr) (k : Bool → Shared → Prop) (s : Shared) : Prop :=
  wpAny M A (forIn ifs true fun c r => if r = true then do let ok ← isTrue c env (eval c env); pure (ForInStep.yield ok) else pure (ForInStep.yield r)) k NoX s
def bpElt (ifs : List Expr) (elt : Expr) (acc : Value) : BP := fun P => ifsK M A env ifs fun ok s3 => if ok = true then wpAny M A (eval elt env) (fun x s4 => wpAny M A (call (.builtin "list.append") [acc, x]) (fun _ s5 => P s5) NoX s4) NoX s3 else P s3
def bpFor (ifs : List Expr) (i1 : Expr) (acc : Value) (e : Expr) (k1 : Nat) : BP := fun P => ifsK M A env ifs fun ok s3 => if ok = true then wpAny M A (eval i1 env) (fun x s4 => wpAny M A (pyIter x) (fun it s5 =>
  codeAny M A (.compStart e k1 it acc env) (fun r s' => match r with | .ok _ => P s' | .error _ => False) s5) NoX s4) NoX s3 else P s3
/-- a clause's loop, by what its turns keep -/
def LoopR (e : Expr) (k : Nat) (t : Expr) (acc : Value) (B : BP) : Prop := ∀ (it : Value) (R : Result → Shared → Prop) (I : Nat → Shared → Prop),
  (∀ n s, I n s → wpAny M A (pyNext it) (fun r s1 => match r with
    | none => R (.ok .next) s1
    | some v => wpAny M A (letOwnedTupleGo t it v) (fun _ s2 => wpAny M A (assign t env v) (fun _ s3 => B (fun s' => ∃ m, m < n ∧ I m s') s3) NoX s2) NoX s1) NoX s) →
  ∀ n s, I n s → codeAny M A (.compLoop e k it acc env) R s
def StartR (e : Expr) (k : Nat) (acc : Value) : Prop := ∀ (it : Value) (R : Result → Shared → Prop) (s : Shared), codeAny M A (.compLoop e k it acc env) R s →
  wpAny M A (pyIter it) (fun it' s' => codeAny M A (.compLoop e k it' acc env) R s') NoX s → codeAny M A (.compStart e k it acc env) R s
end
section
variable {prog : Program} {w : World} {A : Around} {env : Env} {t elt i1 : Expr} {gs : List Comprehension} {scope : Scope} {pos : Pos} {k k1 : Nat} {ifs : List Expr} {acc : Value} {p p1 : Pos}
theorem noX {α : Type} {M : Model} {m : Sem α} {Q Q' : α → Shared → Prop} {E : Value → Shared → Prop} {s : Shared} (h : wpAny M A m Q NoX s) (hq : ∀ a s', Q a s' → Q' a s') : wpAny M A m Q' E s := wpAny_mono h hq fun _ _ z => z.elim
theorem loop_elt (hq : ∀ it, compTurn (.ListComp elt gs scope pos) k it acc env = (do
      standAt p
      match ← pyNext it with
      | none => pure (.done .next)
      | some v =>
        letOwnedTupleGo t it v
        assign t env v
        let mut ok := true
        for c in ifs do
          if ok then ok ← isTrue c env (eval c env)
        if ok then
          (do let _ ← call (.builtin "list.append") [acc, ← eval elt env])
        again (.compLoop (.ListComp elt gs scope pos) k it acc env))) : LoopR (model prog w) A env (.ListComp elt gs scope pos) k t acc (bpElt (model prog w) A env ifs elt acc) := fun it R I turn n s h => by
  refine codeAny_loop rfl I (fun n s hI => ?_) n h
  show wpAny _ A ((compTurn (.ListComp elt gs scope pos) k it acc env).onRaise fun x => do noteFrame x env; theTreesLotGoes x) _ _ s
  refine wpAny_noted ?_
  rw [hq it]
  refine wpAny_bind (wpAny_standAt (wpAny_bind (noX (turn n s hI) fun r s1 h1 => ?_)))
  cases r with
  | none => exact wpAny_pure h1
  | some v =>
    refine wpAny_bind (noX h1 fun _ s2 h2 => wpAny_bind (noX h2 fun _ s3 h3 => wpAny_bind (noX h3 fun ok s4 h4 => ?_)))
    cases ok with
    | false => exact wpAny_pure ⟨rfl, h4⟩
    | true => exact wpAny_bind (wpAny_bind (noX h4 fun x s5 h5 => wpAny_bind (noX h5 fun _ s6 h6 => wpAny_pure (wpAny_pure ⟨rfl, h6⟩))))
theorem loop_for (hs : ∀ x, foldedSetIterable i1 env x = pure x) (hq : ∀ it, compTurn (.ListComp elt gs scope pos) k it acc env = (do
      standAt p
      match ← pyNext it with
      | none => pure (.done .next)
      | some v =>
        letOwnedTupleGo t it v
        assign t env v
        let mut ok := true
        for c in ifs do
          if ok then ok ← isTrue c env (eval c env)
        if ok then
          let x ← eval i1 env
          standAt p1
          let x ← foldedSetIterable i1 env x
          let _ ← runOwn (.compStart (.ListComp elt gs scope pos) k1 (← holding [x] (pyIter x)) acc env) env
        again (.compLoop (.ListComp elt gs scope pos) k it acc env))) : LoopR (model prog w) A env (.ListComp elt gs scope pos) k t acc (bpFor (model prog w) A env ifs i1 acc (.ListComp elt gs scope pos) k1) := fun it R I turn n s h => by
  refine codeAny_loop rfl I (fun n s hI => ?_) n h
  show wpAny _ A ((compTurn (.ListComp elt gs scope pos) k it acc env).onRaise fun x => do noteFrame x env; theTreesLotGoes x) _ _ s
  refine wpAny_noted ?_
  rw [hq it]
  refine wpAny_bind (wpAny_standAt (wpAny_bind (noX (turn n s hI) fun r s1 h1 => ?_)))
  cases r with
  | none => exact wpAny_pure h1
  | some v =>
    refine wpAny_bind (noX h1 fun _ s2 h2 => wpAny_bind (noX h2 fun _ s3 h3 => wpAny_bind (noX h3 fun ok s4 h4 => ?_)))
    cases ok with
    | false => exact wpAny_pure ⟨rfl, h4⟩
    | true =>
      refine wpAny_bind (noX h4 fun x s5 h5 => wpAny_bind (wpAny_standAt (wpAny_bind (wpAny_of_eq (hs x) (wpAny_bind (wpAny_holding (noX h5 fun it1 s6 h6 => ?_)))))))
      refine wpAny_bind (wpAny_runOwn ?_)
      rw [Around.mark_none]
      refine codeAny_mono h6 fun r s' hr => ?_
      cases r with
      | error x => exact hr.elim
      | ok f =>
        first
          | exact wpAny_pure ⟨rfl, hr⟩
          | exact wpAny_bind (wpAny_pure (wpAny_pure ⟨rfl, hr⟩))
end
section
variable {Y : Cx} {D : Addr}
/-- a clause's part, as the model runs it -/
structure PB (Y : Cx) (D : Addr) (B : BP) (b : BD) (vs : List Nat) : Prop where
  run : ∀ (pins : List (Addr × Obj)) (s : Shared) (σ : L2.St) (H : Hp) (N : Hp → Prop) (P : Shared → Prop), Inv Y pins σ H s → b σ H D N →
    (∀ s' σ' H', Inv Y pins σ' H' s' → (L2.wipe σ vs).length = σ'.length → (∀ (j : Nat) v, (L2.wipe σ vs)[j]? = some (some v) → σ'[j]? = some (some v)) → N H' → P s') → B P s
theorem pb_elt {ifs : List Expr} {elt : Expr} {tt : TT} {te : TE} (hx : Y.xe = NoX) (pt : PTs Y ifs tt) (pe : PE Y elt te) : PB Y D (bpElt (model Y.prog Y.w) Y.A Y.env ifs elt (.ref D)) (bElt tt te) [] := ⟨fun pins s σ H N P I h k => by
  have r := pt.run pins s σ H _ I h
  rw [hx] at r
  refine noX r fun b s1 ⟨H1, I1, q1⟩ => ?_
  cases b with
  | false => exact k s1 σ H1 I1 rfl (fun _ _ z => z) q1
  | true =>
    have r2 := pe.run _ s1 σ H1 _ I1 q1
    rw [hx] at r2
    exact noX r2 fun z s2 ⟨y, H2, I2, ry, acc, hD, hz, nx⟩ => app_ok I2 hD hz ry fun s3 I3 => k s3 σ _ I3 rfl (fun _ _ z => z) nx⟩
theorem loop_run {t e : Expr} {k : Nat} {B : BP} {b : BD} {vb vs : List Nat} {g : TG} {J : It} {fp : List Addr} {it : Addr} {tn : Nat → Heap → Prop} {pins : List (Addr × Obj)} {s : Shared} {σ : L2.St} {H : Hp} {N : Hp → Prop} {R : Result → Shared → Prop}
    (hc : Y.calm = true) (hx : Y.xe = NoX) (pg : PG Y t g) (lr : LoopR (model Y.prog Y.w) Y.A Y.env e k t (.ref D) B) (pb : PB Y D B b vb) (hv : ∀ j ∈ vb, j ∈ vs) (T : Turn Y.prog Y.w Y.K t J fp it tn)
    (hst : ∀ s' H', Inv Y pins (L2.wipe σ vs) H' s' → (∀ b ∈ fp, H' b = none) → ∀ b ∈ fp, FpOk Y pins H' b) (I : Inv Y pins (L2.wipe σ vs) H s) (h0 : tn 0 s.heap) (hn : ∀ b ∈ fp, H b = none) (h : bLoop J g vs b σ H D N)
    (hend : ∀ s' H', Inv Y pins (L2.wipe σ vs) H' s' → N H' → R (.ok .next) s') : codeAny (model Y.prog Y.w) Y.A (.compLoop e k (.ref it) (.ref D) Y.env) R s := by
  obtain ⟨W, ⟨m0, w0⟩, turn⟩ := h
  refine lr (.ref it) R (fun n s' => ∃ i H', Inv Y pins (L2.wipe σ vs) H' s' ∧ tn i s'.heap ∧ (∀ b ∈ fp, H' b = none) ∧ W i n H') ?_ m0 s ⟨0, H, I, h0, hn, w0⟩
  rintro n s1 ⟨i, H1, I1, t1, n1, w1⟩
  rcases turn i n H1 w1 with ⟨st, q⟩ | ⟨go, N1, hN, step⟩
  · refine noX (T.done Y rfl rfl rfl hc i pins s1 _ H1 NoX I1 (hst _ _ I1 n1) t1 st) fun r s2 ⟨hr, I2⟩ => ?_
    subst hr
    exact hend _ _ I2 q
  · refine noX (T.item Y rfl rfl rfl hc i pins s1 _ H1 NoX I1 (hst _ _ I1 n1) t1 go) fun r s2 ⟨u, hr, h2⟩ => ?_
    subst hr
    refine noX h2 fun _ s3 ⟨x, H3, I3, r3, y3, t3, n3⟩ => ?_
    have r4 := pg.run _ s3 _ H3 x u _ (I3.pinned (hst _ _ I3 n3) (T.obj _ _ t3)) r3 (step x H3 y3)
    rw [hx] at r4
    refine noX r4 fun _ s4 ⟨σ4, H4, I4, w4, q4⟩ => pb.run _ s4 σ4 H4 N1 _ I4 q4 fun s5 σ5 H5 I5 l5 k5 nx => ?_
    obtain ⟨m', hm, w5⟩ := hN H5 nx
    have keep : ∀ b ∈ fp, ∀ o, s3.heap.get? b = some o → s5.heap.get? b = some o ∧ H5 b = none := fun b hb o eo =>
      let z := I5.pin (b, o) (List.mem_append_right _ (List.mem_append_right _ (mem_pinsAt hb eo)))
      ⟨z.1, z.2.1⟩
    refine ⟨m', hm, i + 1, H5, I5.unpinned.weak ?_ fun j v ej => ?_, T.keep _ _ _ t3 fun b hb o eo => (keep b hb o eo).1, fun b hb => ?_, w5⟩
    · rw [← w4, wipe_length, ← l5, wipe_length]
    · rw [← w4] at ej
      obtain ⟨a, c⟩ := wipe_some ej
      refine k5 j v ?_
      rw [wipe_out fun z => c (hv j z)]
      exact a
    · obtain ⟨o, eo, _⟩ := T.obj _ _ t3 b hb
      exact (keep b hb o eo).2
theorem pb_for {t1 i1 e : Expr} {k1 : Nat} {ifs : List Expr} {tt : TT} {wi : TI} {g : TG} {B1 : BP} {b : BD} {vb vs : List Nat} (hc : Y.calm = true) (hx : Y.xe = NoX) (pt : PTs Y ifs tt) (pi : PI Y t1 i1 wi) (pg : PG Y t1 g)
    (lr : LoopR (model Y.prog Y.w) Y.A Y.env e k1 t1 (.ref D) B1) (sr : StartR (model Y.prog Y.w) Y.A Y.env e k1 (.ref D)) (pb : PB Y D B1 b vb) (hv : ∀ j ∈ vb, j ∈ vs) :
    PB Y D (bpFor (model Y.prog Y.w) Y.A Y.env ifs i1 (.ref D) e k1) (bFor tt wi g vs b) vs := ⟨fun pins s σ H N P I h k => by
  have r := pt.run pins s σ H _ I h
  rw [hx] at r
  refine noX r fun c s1 ⟨H1, I1, q1⟩ => ?_
  cases c with
  | false => exact k s1 σ H1 I1 (wipe_length _ _) (fun j v z => (wipe_some z).1) q1
  | true =>
    have r2 := pi.run _ s1 σ H1 _ I1 q1
    rw [hx] at r2
    refine noX r2 fun v s2 h2 => noX h2 fun itv s3 h3 => ?_
    obtain ⟨it, fp, tn, J, H3, ev, I3, T, t3, f3, hl⟩ := h3
    subst ev
    have hl' : bLoop J g vs b σ H3 D N := hl
    have lp : codeAny (model Y.prog Y.w) Y.A (.compLoop e k1 (.ref it) (.ref D) Y.env) (fun r s' => match r with | .ok _ => P s' | .error _ => False) s3 :=
      loop_run hc hx pg lr pb hv T (fun s' H' _ hn b hb => ⟨hn b hb, (f3 b hb).2⟩) (I3.weak (wipe_length _ _) fun j v z => (wipe_some z).1) t3 (fun b hb => (f3 b hb).1) hl' fun s' H' I' nx => k s' _ H' I' rfl (fun _ _ z => z) nx
    exact sr _ _ _ lp (T.self Y.A 0 _ _ _ t3 lp)⟩
end
section
variable {X : Cx} {pins : List (Addr × Obj)} {s : Shared} {σ : L2.St} {H : Hp} {Q : VK}
theorem cmp_core {elt tg iter : Expr} {ifs : List Expr} {rest : List Comprehension} {scope : Scope} {own : List (Str × Nat)} {pos pos' : Pos} {wi : TI} {g : TG} {b : BD} {vb : List Nat} {use : Option (Value → Sem Unit)} {Qf : Value → Shared → Prop}
    (hc : X.calm = true) (hN : X.N.Nodup) (I : Inv X pins σ H s) (hi : PI X tg iter wi) (ok : BlkOk X.N X.env.scope scope own) (hv : ∀ j ∈ vb, j ∈ own.map (·.2)) (hs : ∀ x, foldedSetIterable iter X.env x = pure x)
    (hg : ∀ (s : Shared) (H : Hp) (C : Addr) (cl : List (Str × Addr)) (fp : List Addr), PG (X.blk s H scope (compEnvC scope cl C X.env) fp) tg g)
    (hb : ∀ (s : Shared) (H : Hp) (C : Addr) (cl : List (Str × Addr)) (fp : List Addr) (D : Addr), ∃ B : BP, LoopR (model X.prog X.w) X.A (compEnvC scope cl C X.env) (.ListComp elt (⟨tg, iter, ifs, 0⟩ :: rest) scope pos) 0 tg (.ref D) B ∧ PB (X.blk s H scope (compEnvC scope cl C X.env) fp) D B b vb)
    (h : tCmp wi g (own.map (·.2)) b σ H Q)
    (hRR : ∀ D C s' m H', Inv X pins σ H' s' → Q (.ref D) H' → s'.heap.Ns C m → FpOk X pins H' C → compPost (model X.prog X.w) X.A X.xe use Qf (.ref D) C (.ok .next) s') :
    wpAny (model X.prog X.w) X.A (comprehension (.ListComp elt (⟨tg, iter, ifs, 0⟩ :: rest) scope pos) scope X.env pos' (newList []) false (eval iter X.env) use) Qf X.xe s := by
  refine wpAny_comprehension_free (use := use) rfl hs (closure_ok fun y hy ey => (ok.free y hy ey).elim (fun z => I.ok.has _ (.inl z)) fun z => I.ok.has _ (.inr z)) ok.kind (fun y hy ey => by rw [ok.uniq y hy, ey])
    (thn (hi.run pins s σ H _ I h) fun v s1 h1 => thn h1 fun itv s2 h2 => ?_)
  obtain ⟨it, fp, tn, J, H2, ev, I2, T, t2, f2, q⟩ := h2
  subst ev
  refine wpAny_newObj_type (newEnv_comp ?_) (by show 0 ≤ sizeLine; decide)
  generalize hD : s2.heap.objs.size = D
  have lp0 := q D (I2.hok.fresh (Nat.le_of_eq hD))
  generalize es3 : ({ s2 with heap := s2.heap.push { cls := .type "list", data := .seq ([] : List Value).toArray } } : Shared) = s3
  have hp3 : s3.heap = s2.heap.push { cls := .type "list", data := .seq ([] : List Value).toArray } := by rw [← es3]
  have I3 : Inv X pins σ (upd H2 D (.lst [])) s3 := by
    rw [← es3]
    refine I2.laid (t' := s2.toks) (fun b o eo => Heap.get?_push_of_some _ eo) (Nat.le_of_eq hD) ⟨Nat.zero_le _, [], 0, .nil, ?_⟩
    rw [← hD]
    exact Heap.get?_push_size _ rfl
  have f3 : ∀ a ∈ fp, FpOk X pins (upd H2 D (.lst [])) a ∧ a < s3.heap.objs.size := fun a ha => by
    obtain ⟨o, eo, _⟩ := T.obj _ _ t2 a ha
    have lt := Heap.lt_size eo
    refine ⟨⟨?_, (f2 a ha).2⟩, ?_⟩
    · rw [upd_ne (fun z => absurd lt (by rw [z, ← hD]; exact Nat.lt_irrefl _))]
      exact (f2 a ha).1
    · rw [hp3, Heap.size_push]
      exact Nat.lt_succ_of_lt lt
  have t3 : tn 0 s3.heap := T.keep _ _ _ t2 fun b _ o eo => by rw [hp3]; exact Heap.get?_push_of_some _ eo
  generalize hH3 : upd H2 D (.lst []) = H3 at I3 f3 lp0
  have I4 := block_start I3 ok hN f3
  obtain ⟨B, lr, pb⟩ := hb s3 H3 s3.heap.objs.size (cellsFrom (s3.heap.objs.size + 1) scope.names (cloFrom X.env.cells scope.names [])) fp D
  have pg := hg s3 H3 s3.heap.objs.size (cellsFrom (s3.heap.objs.size + 1) scope.names (cloFrom X.env.cells scope.names [])) fp
  show codeAny _ _ (.compStart (.ListComp elt (⟨tg, iter, ifs, 0⟩ :: rest) scope pos) 0 (.ref it) (.ref D) (compEnvC scope (cellsFrom (s3.heap.objs.size + 1) scope.names (cloFrom X.env.cells scope.names [])) s3.heap.objs.size X.env)) (compPost (model X.prog X.w) X.A X.xe use Qf (.ref D) s3.heap.objs.size) { s3 with heap := pushCells (s3.heap.push { cls := .type "dict", data := .dict #[] }) scope.names }
  generalize ece : compEnvC scope (cellsFrom (s3.heap.objs.size + 1) scope.names (cloFrom X.env.cells scope.names [])) s3.heap.objs.size X.env = ce at I4 lr pb pg ⊢
  have cL : ce.locals = s3.heap.objs.size := by subst ece; rfl
  generalize es4 : ({ s3 with heap := pushCells (s3.heap.push { cls := .type "dict", data := .dict #[] }) scope.names } : Shared) = s4 at I4 ⊢
  have t4 : tn 0 s4.heap := T.keep _ _ _ t3 fun b _ o eo => by rw [← es4]; exact pushCells_keeps _ _ _ _ (Heap.get?_push_of_some _ eo)
  have lp : codeAny (model X.prog X.w) X.A (.compLoop (.ListComp elt (⟨tg, iter, ifs, 0⟩ :: rest) scope pos) 0 (.ref it) (.ref D) ce) (compPost (model X.prog X.w) X.A X.xe use Qf (.ref D) s3.heap.objs.size) s4 := by
    refine loop_run (Y := X.blk s3 H3 scope ce fp) hc rfl pg lr pb hv T (fun s' H' I' hn a ha => ⟨hn a ha, (I'.ok.exf a ha).1, I'.ok.exfs a ha, .inl ha, fun x c z => (I'.ok.exf a ha).2 x c z, fun p hp => absurd (show p ∈ ([] : List (Addr × Obj)) ++ [] from hp) (by simp)⟩) I4 t4 (fun a ha => (f3 a ha).1.1) lp0 fun s6 H6 I6 q6 => ?_
    have I7 : Inv X pins σ H6 s6 := I3.call' (ch := fp) I6.os I6.base I6.hok I6.bare fun a ha => ⟨(f3 a ha).1.2.2.2.1, (f3 a ha).1.2.1, (f3 a ha).1.2.2.2.2.1, (f3 a ha).1.2.2.2.2.2⟩
    have nC : H6 s3.heap.objs.size = none := by
      have z : H6 ce.locals = none := I6.free
      rw [cL] at z
      exact z
    obtain ⟨m, hn, _⟩ := I6.loc
    have hn : s6.heap.Ns ce.locals m := hn
    rw [cL] at hn
    exact hRR D s3.heap.objs.size s6 m H6 I7 q6 hn (I3.fpOk (Nat.le_refl _) nC)
  exact codeAny_compStart_list lp (T.self X.A 0 _ _ _ t4 lp)
theorem pe_cmp {elt tg iter : Expr} {ifs : List Expr} {rest : List Comprehension} {scope : Scope} {own : List (Str × Nat)} {pos : Pos} {wi : TI} {g : TG} {b : BD} {vb : List Nat}
    (hc : X.calm = true) (hN : X.N.Nodup) (hi : PI X tg iter wi) (ok : BlkOk X.N X.env.scope scope own) (hv : ∀ j ∈ vb, j ∈ own.map (·.2))
    (hg : ∀ (s : Shared) (H : Hp) (C : Addr) (cl : List (Str × Addr)) (fp : List Addr), PG (X.blk s H scope (compEnvC scope cl C X.env) fp) tg g)
    (hb : ∀ (s : Shared) (H : Hp) (C : Addr) (cl : List (Str × Addr)) (fp : List Addr) (D : Addr), ∃ B : BP, LoopR (model X.prog X.w) X.A (compEnvC scope cl C X.env) (.ListComp elt (⟨tg, iter, ifs, 0⟩ :: rest) scope pos) 0 tg (.ref D) B ∧ PB (X.blk s H scope (compEnvC scope cl C X.env) fp) D B b vb)
    (hs : ∀ x, foldedSetIterable iter X.env x = pure x := by intro _; rfl) :
    PE X (.ListComp elt (⟨tg, iter, ifs, 0⟩ :: rest) scope pos) (tCmp wi g (own.map (·.2)) b) := by
  refine ⟨fun pins s σ H Q I h => ?_⟩
  rw [eval_ListComp]
  refine cmp_core hc hN I hi ok hv hs hg hb h fun D C s' m H' I' q hn f => ⟨m, hn, fun h'' sb => ?_⟩
  obtain ⟨f0, f1, f2, f3, f4, f5⟩ := f
  exact ⟨.ref D, H', I'.turned (t' := s'.toks) (fun b o hb eo => (sb.2 b hb).trans eo) f0 f1 f3 f4 f5, rfl, q⟩
end
section
variable {prog : Program} {w : World} {A : Around} {env : Env} {elt t0 i0 t1 i1 t2 i2 : Expr} {ifs0 ifs1 ifs2 : List Expr} {scope : Scope} {pos : Pos} {acc : Value}
theorem start3_1 : StartR (model prog w) A env (.ListComp elt [⟨t0, i0, ifs0, 0⟩, ⟨t1, i1, ifs1, 0⟩, ⟨t2, i2, ifs2, 0⟩] scope pos) 1 acc := fun it R s h0 h => by
  refine codeAny_of_tree ?_
  show wpAny _ _ ((compStart _ 1 it acc env).onRaise fun x => do noteFrame x env; standAt theWindowsPlace) _ _ s
  refine wpAny_notedAt ?_
  unfold compStart
  show wpAny _ _ (ask >>= _) _ _ s
  refine wpAny_bind (wpAny_askSetting (wpAny_ite ?_))
  split
  · first
      | exact wpAny_bind (wpAny_pure (wpAny_pure (And.intro rfl h0)))
      | exact wpAny_pure (And.intro rfl h0)
  · refine wpAny_bind (wpAny_rule ?_)
    show wpAny _ _ (standAt i1.pos >>= _) _ _ s
    exact wpAny_bind (wpAny_standAt (wpAny_bind (noX h fun it' s' h' => wpAny_pure (And.intro rfl h'))))
theorem start3_2 : StartR (model prog w) A env (.ListComp elt [⟨t0, i0, ifs0, 0⟩, ⟨t1, i1, ifs1, 0⟩, ⟨t2, i2, ifs2, 0⟩] scope pos) 2 acc := fun it R s h0 h => by
  refine codeAny_of_tree ?_
  show wpAny _ _ ((compStart _ 2 it acc env).onRaise fun x => do noteFrame x env; standAt theWindowsPlace) _ _ s
  refine wpAny_notedAt ?_
  unfold compStart
  show wpAny _ _ (ask >>= _) _ _ s
  refine wpAny_bind (wpAny_askSetting (wpAny_ite ?_))
  split
  · first
      | exact wpAny_bind (wpAny_pure (wpAny_pure (And.intro rfl h0)))
      | exact wpAny_pure (And.intro rfl h0)
  · refine wpAny_bind (wpAny_rule ?_)
    show wpAny _ _ (standAt i2.pos >>= _) _ _ s
    exact wpAny_bind (wpAny_standAt (wpAny_bind (noX h fun it' s' h' => wpAny_pure (And.intro rfl h'))))
theorem start2_1 : StartR (model prog w) A env (.ListComp elt [⟨t0, i0, ifs0, 0⟩, ⟨t1, i1, ifs1, 0⟩] scope pos) 1 acc := fun it R s h0 h => by
  refine codeAny_of_tree ?_
  show wpAny _ _ ((compStart _ 1 it acc env).onRaise fun x => do noteFrame x env; standAt theWindowsPlace) _ _ s
  refine wpAny_notedAt ?_
  unfold compStart
  show wpAny _ _ (ask >>= _) _ _ s
  refine wpAny_bind (wpAny_askSetting (wpAny_ite ?_))
  split
  · first
      | exact wpAny_bind (wpAny_pure (wpAny_pure (And.intro rfl h0)))
      | exact wpAny_pure (And.intro rfl h0)
  · refine wpAny_bind (wpAny_rule ?_)
    show wpAny _ _ (standAt i1.pos >>= _) _ _ s
    exact wpAny_bind (wpAny_standAt (wpAny_bind (noX h fun it' s' h' => wpAny_pure (And.intro rfl h'))))
end
section
variable {X : Cx} {elt t0 i0 t1 i1 t2 i2 : Expr} {ifs0 ifs1 ifs2 : List Expr} {scope : Scope} {own : List (Str × Nat)} {pos : Pos} {wi wi1 wi2 : TI} {g g1 g2 : TG} {tt tt1 tt2 : TT} {te : TE} {vs1 vs2 : List Nat}
theorem pe_cmp3 (hc : X.calm = true) (hN : X.N.Nodup) (hi : PI X t0 i0 wi) (ok : BlkOk X.N X.env.scope scope own) (hv : ∀ j ∈ vs1, j ∈ own.map (·.2)) (hv2 : ∀ j ∈ vs2, j ∈ vs1)
    (hg : ∀ (s : Shared) (H : Hp) (C : Addr) (cl : List (Str × Addr)) (fp : List Addr), PG (X.blk s H scope (compEnvC scope cl C X.env) fp) t0 g)
    (ht : ∀ (s : Shared) (H : Hp) (C : Addr) (cl : List (Str × Addr)) (fp : List Addr), PTs (X.blk s H scope (compEnvC scope cl C X.env) fp) ifs0 tt)
    (hi1 : ∀ (s : Shared) (H : Hp) (C : Addr) (cl : List (Str × Addr)) (fp : List Addr), PI (X.blk s H scope (compEnvC scope cl C X.env) fp) t1 i1 wi1)
    (hg1 : ∀ (s : Shared) (H : Hp) (C : Addr) (cl : List (Str × Addr)) (fp : List Addr), PG (X.blk s H scope (compEnvC scope cl C X.env) fp) t1 g1)
    (ht1 : ∀ (s : Shared) (H : Hp) (C : Addr) (cl : List (Str × Addr)) (fp : List Addr), PTs (X.blk s H scope (compEnvC scope cl C X.env) fp) ifs1 tt1)
    (hi2 : ∀ (s : Shared) (H : Hp) (C : Addr) (cl : List (Str × Addr)) (fp : List Addr), PI (X.blk s H scope (compEnvC scope cl C X.env) fp) t2 i2 wi2)
    (hg2 : ∀ (s : Shared) (H : Hp) (C : Addr) (cl : List (Str × Addr)) (fp : List Addr), PG (X.blk s H scope (compEnvC scope cl C X.env) fp) t2 g2)
    (ht2 : ∀ (s : Shared) (H : Hp) (C : Addr) (cl : List (Str × Addr)) (fp : List Addr), PTs (X.blk s H scope (compEnvC scope cl C X.env) fp) ifs2 tt2)
    (he : ∀ (s : Shared) (H : Hp) (C : Addr) (cl : List (Str × Addr)) (fp : List Addr), PE (X.blk s H scope (compEnvC scope cl C X.env) fp) elt te)
    (hs : ∀ x, foldedSetIterable i0 X.env x = pure x := by intro _; rfl) (hs1 : ∀ env x, foldedSetIterable i1 env x = pure x := by intro _ _; rfl) (hs2 : ∀ env x, foldedSetIterable i2 env x = pure x := by intro _ _; rfl) :
    PE X (.ListComp elt [⟨t0, i0, ifs0, 0⟩, ⟨t1, i1, ifs1, 0⟩, ⟨t2, i2, ifs2, 0⟩] scope pos) (tCmp wi g (own.map (·.2)) (bFor tt wi1 g1 vs1 (bFor tt1 wi2 g2 vs2 (bElt tt2 te)))) :=
  pe_cmp hc hN hi ok hv hg (fun s H C cl fp D => ⟨_, loop_for (p := i0.pos) (p1 := i1.pos) (hs1 _) (fun it => rfl), pb_for hc rfl (ht s H C cl fp) (hi1 s H C cl fp) (hg1 s H C cl fp) (loop_for (p := i1.pos) (p1 := i2.pos) (hs2 _) (fun it => rfl)) start3_1
    (pb_for hc rfl (ht1 s H C cl fp) (hi2 s H C cl fp) (hg2 s H C cl fp) (loop_elt (p := i2.pos) (fun it => rfl)) start3_2 (pb_elt rfl (ht2 s H C cl fp) (he s H C cl fp)) (fun _ z => nomatch z)) hv2⟩) hs
theorem pe_cmp2 (hc : X.calm = true) (hN : X.N.Nodup) (hi : PI X t0 i0 wi) (ok : BlkOk X.N X.env.scope scope own) (hv : ∀ j ∈ vs1, j ∈ own.map (·.2))
    (hg : ∀ (s : Shared) (H : Hp) (C : Addr) (cl : List (Str × Addr)) (fp : List Addr), PG (X.blk s H scope (compEnvC scope cl C X.env) fp) t0 g)
    (ht : ∀ (s : Shared) (H : Hp) (C : Addr) (cl : List (Str × Addr)) (fp : List Addr), PTs (X.blk s H scope (compEnvC scope cl C X.env) fp) ifs0 tt)
    (hi1 : ∀ (s : Shared) (H : Hp) (C : Addr) (cl : List (Str × Addr)) (fp : List Addr), PI (X.blk s H scope (compEnvC scope cl C X.env) fp) t1 i1 wi1)
    (hg1 : ∀ (s : Shared) (H : Hp) (C : Addr) (cl : List (Str × Addr)) (fp : List Addr), PG (X.blk s H scope (compEnvC scope cl C X.env) fp) t1 g1)
    (ht1 : ∀ (s : Shared) (H : Hp) (C : Addr) (cl : List (Str × Addr)) (fp : List Addr), PTs (X.blk s H scope (compEnvC scope cl C X.env) fp) ifs1 tt1)
    (he : ∀ (s : Shared) (H : Hp) (C : Addr) (cl : List (Str × Addr)) (fp : List Addr), PE (X.blk s H scope (compEnvC scope cl C X.env) fp) elt te)
    (hs : ∀ x, foldedSetIterable i0 X.env x = pure x := by intro _; rfl) (hs1 : ∀ env x, foldedSetIterable i1 env x = pure x := by intro _ _; rfl) :
    PE X (.ListComp elt [⟨t0, i0, ifs0, 0⟩, ⟨t1, i1, ifs1, 0⟩] scope pos) (tCmp wi g (own.map (·.2)) (bFor tt wi1 g1 vs1 (bElt tt1 te))) :=
  pe_cmp hc hN hi ok hv hg (fun s H C cl fp D => ⟨_, loop_for (p := i0.pos) (p1 := i1.pos) (hs1 _) (fun it => rfl), pb_for hc rfl (ht s H C cl fp) (hi1 s H C cl fp) (hg1 s H C cl fp) (loop_elt (p := i1.pos) (fun it => rfl)) start2_1
    (pb_elt rfl (ht1 s H C cl fp) (he s H C cl fp)) (fun _ z => nomatch z)⟩) hs
end
end DL
namespace DL
open PySem PySem.Spec PyProof.Rows L2
theorem pi_tupK {X : Cx} {K : PySem.W.Frag} {tg l : Expr} {tl : TE} (hl : PE X l tl) (hK : X.K = K) : PI X tg l (iTup K tl) := hK ▸ pi_tup hl
theorem pi_listK {X : Cx} {K : PySem.W.Frag} {tg l : Expr} {tl : TE} (hl : PE X l tl) (hK : X.K = K) : PI X tg l (iList K tl) := hK ▸ pi_list hl
/-! the heap-free side -/
def flatO {α γ : Type} : List α → (α → Option (List γ)) → Option (List γ)
  | [], _ => some []
  | x :: xs, f => (f x).bind fun a => (flatO xs f).bind fun b => some (a ++ b)
def flatC {α γ : Type} (xs : List α) (f : α → Option (List γ)) : Option (List γ) := (flatO xs f).bind fun zs => if xs.length + zs.length ≤ 1000000 then some zs else none
/-- a clause appends ds -/
def EvB (K : PySem.W.Frag) (b : BD) (es : List Sl) (ds : List Dt) : Prop := ∀ (F G H : Hp) (σ : L2.St) (D : Addr) (acc : List V), Stt K (upd F D (.lst acc)) G H σ es → acc.length + ds.length ≤ 1000000 →
  ∀ N : Hp → Prop, (∀ G' H' vs, Stt K (upd F D (.lst (acc ++ vs))) G' H' σ es → Same G G' → Reps K G' vs ds → N H') → b σ H D N
section
variable {K : PySem.W.Frag} {es : List Sl} {α β γ : Type}
theorem flatO_cons {x : α} {xs : List α} {f : α → Option (List γ)} {zs : List γ} (h : flatO (x :: xs) f = some zs) : ∃ a b, f x = some a ∧ flatO xs f = some b ∧ zs = a ++ b := by
  unfold flatO at h
  cases p : f x with
  | none => rw [p] at h; cases h
  | some a =>
    rw [p] at h
    cases q : flatO xs f with
    | none =>
      rw [q] at h
      cases h
    | some b =>
      rw [q] at h
      exact ⟨a, b, rfl, rfl, (Option.some.inj h).symm⟩
theorem ec_pure {te : TE} {em2 : β → Dt} {y : β} (h : Ev K te es (em2 y)) : ∀ ys, some [y] = some ys → EvB K (bElt tYes te) es (ys.map em2) := fun ys e F G H σ D acc s hz N q => by
  cases e
  refine h _ G H σ s _ fun v G1 H1 s1 g1 r1 => ?_
  have sz : (1000000 : Nat) < sizeLine := by decide
  rw [List.length_map, List.length_singleton] at hz
  exact ⟨acc, s1.f D _ upd_same, by omega, q G1 _ [v] s1.reprot g1 (.cons r1 .nil)⟩
theorem ec_bnd {α β : Type} {b : BD} {em2 : β → Dt} {m : Option α} {f : α → Option (List β)} (h : ∀ x, m = some x → ∀ ys, f x = some ys → EvB K b es (ys.map em2)) : ∀ ys, m.bind f = some ys → EvB K b es (ys.map em2) := fun ys e => by
  cases p : m with
  | none => rw [p] at e; cases e
  | some x =>
    rw [p] at e
    exact h x p ys e
/-- a clause's loop -/
theorem eb_turns {J : It} {g : TG} {vs : List Nat} {b : BD} {xs : List α} {em : α → Dt} {em2 : β → Dt} {en2 : α → List Sl} {f : α → Option (List β)} {zs : List β} {F G G1 H1 : Hp} {σ : L2.St} {D : Addr} {acc : List V} {N : Hp → Prop}
    (hg : ∀ x, EvG K g vs (wipeS es vs) (em x) (en2 x)) (hb : ∀ x, ∀ ys, f x = some ys → EvB K b (en2 x) (ys.map em2)) (hd : es.all (fun t => !t.isOwn) = true) (h : flatO xs f = some zs)
    (hy : Yields K J G (xs.map em)) (s : Stt K (upd F D (.lst acc)) G1 H1 σ es) (g0 : Same G G1) (hz : acc.length + zs.length ≤ 1000000)
    (q : ∀ G' H' us, Stt K (upd F D (.lst (acc ++ us))) G' H' σ es → Same G1 G' → Reps K G' us (zs.map em2) → N H') : bLoop J g vs b σ H1 D N := by
  refine ⟨fun i m H' => ∃ (G' : Hp) (us : List V) (ys rest : List β), Stt K (upd F D (.lst (acc ++ us))) G' H' σ es ∧ Same G1 G' ∧ Reps K G' us (ys.map em2) ∧ flatO (xs.drop i) f = some rest ∧ ys ++ rest = zs ∧ m = xs.length - i ∧ i ≤ xs.length,
    ⟨_, G1, [], [], zs, by rw [List.append_nil]; exact s, Same.refl _, .nil, h, rfl, rfl, Nat.zero_le _⟩, ?_⟩
  rintro i m H' ⟨G', us, ys, rest, st', g', ru, hc, hap, rfl, hle⟩
  by_cases hlt : i < xs.length
  · refine .inr ?_
    rw [List.drop_eq_getElem_cons hlt] at hc
    obtain ⟨a, r2, ea, er, rfl⟩ := flatO_cons hc
    obtain ⟨go, yld⟩ := (hy i _ G' H' σ es (g0.trans g') st').1 (em xs[i]) (by rw [List.getElem?_map, List.getElem?_eq_getElem hlt]; rfl)
    refine ⟨go, fun H2 => ∃ (G2 : Hp) (us2 : List V) (ys2 : List β), Stt K (upd F D (.lst (acc ++ us2))) G2 H2 σ es ∧ Same G1 G2 ∧ Reps K G2 us2 (ys2.map em2) ∧ ys2 ++ r2 = zs,
      fun H2 ⟨G2, us2, ys2, a1, a2, a3, a4⟩ => ⟨xs.length - (i + 1), by omega, G2, us2, ys2, r2, a1, a2, a3, er, a4, rfl, by omega⟩, fun x H2 hx => ?_⟩
    obtain ⟨G2, st2, g2, rx⟩ := yld x H2 hx
    refine hg xs[i] _ G2 H2 (L2.wipe σ vs) x (st2.wipe vs) rx _ fun σ3 G3 H3 st3 g3 l3 k3 => ?_
    refine ⟨by rw [wipe_ext (σ := L2.wipe σ vs) l3 k3]; exact wipe_ext (wipe_length _ _) fun k hk => wipe_get hk, ?_⟩
    have lu := ru.length
    rw [List.length_map] at lu
    have lz : ys.length + (a.length + r2.length) = zs.length := by rw [← hap, List.length_append, List.length_append]
    refine hb xs[i] a ea F G3 H3 σ3 D _ st3 (by rw [List.length_append, List.length_map]; omega) _ fun G4 H4 vs4 st4 g4 r4 => ?_
    have gg : Same G' G4 := g2.trans (g3.trans g4)
    refine ⟨G4, us ++ vs4, ys ++ a, ?_, g'.trans gg, ?_, by rw [List.append_assoc]; exact hap⟩
    · rw [← List.append_assoc]
      have swp : ∀ {F1 F2 Ga Ha Gb Hb : Hp} {τ τ2 : L2.St} {e1 e2 : List Sl}, Stt K F1 Ga Ha τ e1 → e1.all (fun t => !t.isOwn) = true → Stt K F2 Gb Hb τ2 e2 → Same Ga Gb → Stt K F2 Gb Hb τ e1 := fun {F1 F2 Ga Ha Gb Hb τ τ2 e1 e2} s hd s2 g => {
        f := s2.f, g := s2.g, dj := s2.dj, len := s.len, ow := s.ow
        sl := fun i t e => by
          obtain ⟨x, hx, k⟩ := s.sl i t e
          refine ⟨x, hx, ?_⟩
          have := List.all_eq_true.mp hd t (List.mem_of_getElem? e)
          cases t with
          | un => trivial
          | d x =>
            obtain ⟨v, e, r⟩ := k
            exact ⟨v, e, r.mono g⟩
          | own _ _ => cases this
          | obo _ _ _ => cases this }
      exact swp st2 hd st4 (g3.trans g4)
    · rw [List.map_append]
      exact (ru.mono gg).append r4
  · have e3 : i = xs.length := by omega
    subst e3
    refine .inl ⟨(hy xs.length _ G' H' σ es (g0.trans g') st').2 (by simp), ?_⟩
    rw [List.drop_length] at hc
    cases hc
    rw [List.append_nil] at hap
    subst hap
    exact q G' H' us st' g' ru
theorem eb_loop {wi : TI} {g : TG} {vs : List Nat} {b : BD} {xs : List α} {em : α → Dt} {em2 : β → Dt} {en2 : α → List Sl} {f : α → Option (List β)} (hi : EvI K wi es (xs.map em)) (hg : ∀ x, EvG K g vs (wipeS es vs) (em x) (en2 x))
    (hb : ∀ x, ∀ ys, f x = some ys → EvB K b (en2 x) (ys.map em2)) (hd : es.all (fun t => !t.isOwn) = true) : ∀ ys, flatO xs f = some ys → EvB K (bFor tYes wi g vs b) es (ys.map em2) := fun ys h F G H σ D acc s hz N q =>
  hi _ G H σ s _ fun J G1 H1 s1 g1 y => eb_turns (G := G1) hg hb hd h y s1 (Same.refl _) (by rw [List.length_map] at hz; exact hz) fun G' H' us st' g' r' => q G' H' us st' (g1.trans g') r'
theorem el_flat {wi : TI} {g : TG} {vs : List Nat} {b : BD} {xs : List α} {em : α → Dt} {em2 : β → Dt} {en2 : α → List Sl} {f : α → Option (List β)} {zs : List β} (hi : EvI K wi es (xs.map em)) (hg : ∀ x, EvG K g vs (wipeS es vs) (em x) (en2 x))
    (hb : ∀ x, ∀ ys, f x = some ys → EvB K b (en2 x) (ys.map em2)) (hd : es.all (fun t => !t.isOwn) = true) (h : flatC xs f = some zs) : EvL K (tCmp wi g vs b) es (zs.map em2) := fun F G H σ st Q q => by
  unfold flatC at h
  cases p : flatO xs f with
  | none => rw [p] at h; cases h
  | some ys =>
    rw [p] at h
    have h : (if xs.length + ys.length ≤ 1000000 then some ys else none) = some zs := h
    by_cases hz : xs.length + ys.length ≤ 1000000
    · rw [if_pos hz] at h
      cases h
      refine hi F G H σ st _ fun J G1 H1 s1 g1 y => fun D hD => ?_
      have hF : F D = none := s1.fnone hD
      refine eb_turns (acc := []) (G := G1) hg hb hd p y (s1.prot hD) (Same.refl _) (by simp only [List.length_nil]; omega) fun G' H' us st' g' r' => q D us G' H' ?_ hF (g1.trans g') r'
      exact st'
    · rw [if_neg hz] at h
      cases h
end
end DL

/-! Dl12: max(xs, default=None); lists of values that may be left out -/
namespace DL
open PySem PySem.Spec PyProof.Rows L2
section
variable {prog : Program} {w : World} {A : Around} {I : Addr} {fp wr : List Addr} {n : Nat} {P : Nat → Value → Prop} {St : Nat → Heap → Prop} {bt : Nat → Nat → Bool} {S : Addr} {d : Value} {R : Result → Shared → Prop}
def maxKw (d : Value) : List (Str × Value) := [(Str.ofString "default", d)]
/-- the walk of max with a default: S holds nothing, or the best so far twice -/
theorem maxD_walk (W : Walks prog w A.in1 I fp wr n P St) (hcmp : CmpOf prog w A.in1 .Gt P bt) (hSf : S ∉ fp) : ∀ (k j : Nat) (s : Shared) (c : Nat) (its : Array Value), n - j = k → j ≤ n → St j s.heap →
    ((j = 0 ∧ its = #[]) ∨ ∃ i v, j = i + 1 ∧ its = #[v, v] ∧ P (argBest bt i) v) → s.heap.get? S = some { cls := .type "list", dict := none, data := .seq its c, slots := #[] } →
    (∀ v h' tk, ((n = 0 ∧ v = d) ∨ (0 < n ∧ P (argBest bt (n - 1)) v)) → (∀ b o, b ∉ wr → b ≠ S → s.heap.get? b = some o → h'.get? b = some o) → R (.ok (.ret v)) { s with heap := h', toks := tk }) →
    codeAny (model prog w) A (.builtin "max.loop" ⟨[.ref I, .none, .ref S], maxKw d⟩) R s := by
  have hSw : S ∉ wr := fun h => hSf (W.sub _ h)
  have nm : (toString "max" ++ toString ".loop" : String) = "max.loop" := by decide
  have oth : ∀ {a : Addr} {g : Heap} {f : Obj → Obj}, a ≠ S → (g.update S f).get? a = g.get? a := fun h => Heap.get?_update_other _ _ (Ne.symm h)
  intro k
  induction k with
  | zero =>
    intro j s c its hk hj st hits hS hR
    obtain rfl : j = n := by omega
    refine codeAny_builtin F.entry_max_loop ?_
    rw [Around.under_plainId F.plain_max_loop _]
    show wpAny _ A.in1 (seqItems? (.ref S) >>= _) _ _ s
    refine wpAny_bind (wpAny_seqItems hS rfl ?_)
    show wpAny _ A.in1 (tryCatch (pyNext (.ref I)) _ >>= _) _ _ s
    refine wpAny_bind (wpAny_tryCatch (W.done s _ _ st fun h' tk keep => ?_))
    rcases hits with ⟨rfl, rfl⟩ | ⟨i, v, rfl, rfl, pv⟩
    · show wpAny _ A.in1 (rule _ >>= _) _ _ _
      exact wpAny_bind (wpAny_rule (wpAny_pure (hR d _ tk (.inl ⟨rfl, rfl⟩) fun b o hb _ e => keep b o hb e)))
    · show wpAny _ A.in1 (updateSeq S (fun _ => #[]) >>= _) _ _ _
      refine wpAny_bind ?_
      refine wpAny_updateSeq (keep S _ hSw hS) rfl (wpAny_bind (wpAny_letGo (wpAny_pure ?_)))
      exact hR v _ tk (.inr ⟨Nat.succ_pos _, pv⟩) fun b o hb hbS e => (oth hbS).trans (keep b o hb e)
  | succ k ih =>
    intro j s c its hk hj st hits hS hR
    have lt : j < n := by omega
    refine codeAny_builtin F.entry_max_loop ?_
    rw [Around.under_plainId F.plain_max_loop _]
    show wpAny _ A.in1 (seqItems? (.ref S) >>= _) _ _ s
    refine wpAny_bind (wpAny_seqItems hS rfl ?_)
    show wpAny _ A.in1 (tryCatch (pyNext (.ref I)) _ >>= _) _ _ s
    refine wpAny_bind (wpAny_tryCatch (W.item j s _ _ lt st fun u h' tk pu st' keep => ?_))
    have hS' := keep S _ hSw hS
    rcases hits with ⟨rfl, rfl⟩ | ⟨i, v, rfl, rfl, pv⟩
    · show wpAny _ A.in1 (updateSeq S (fun _ => #[u, u]) >>= _) _ _ _
      refine wpAny_bind ?_
      refine wpAny_updateSeq hS' rfl ?_
      rw [nm]
      refine wpAny_pure ⟨plainId_quiet F.plain_max_loop _, ih 1 _ _ _ (by omega) lt (W.frame _ _ _ st' fun b hb o e => (oth fun z => hSf (by rw [← z]; exact hb)).trans e) (.inr ⟨0, u, rfl, rfl, pu⟩) (Heap.get?_update_self _ hS' rfl) fun v' h2 tk2 hv k2 => ?_⟩
      exact hR v' h2 tk2 hv fun b o hb hbS e => k2 b o hb hbS ((oth hbS).trans (keep b o hb e))
    · show wpAny _ A.in1 (tryCatch (holding [u, u] (richCompare .Gt u v >>= _)) _ >>= _) _ _ _
      refine wpAny_bind (wpAny_tryCatch (wpAny_holding (wpAny_bind (hcmp (i + 1) (argBest bt i) u v _ _ _ pu pv ?_))))
      refine wpAny_bind (wpAny_holding (wpAny_truthy_bool (wpAny_bind (wpAny_letGo (wpAny_pure ?_)))))
      cases hb : bt (i + 1) (argBest bt i) with
      | true =>
        rw [if_pos rfl]
        refine wpAny_bind ?_
        refine wpAny_updateSeq hS' rfl (wpAny_bind (wpAny_letGo ?_))
        rw [nm]
        refine wpAny_pure ⟨plainId_quiet F.plain_max_loop _, ih (i + 2) _ _ _ (by omega) lt (W.frame _ _ _ st' fun b hbf o e => (oth fun z => hSf (by rw [← z]; exact hbf)).trans e) (.inr ⟨i + 1, u, rfl, rfl, ?_⟩) (Heap.get?_update_self _ hS' rfl) fun v' h2 tk2 hv k2 => ?_⟩
        · simp only [argBest, hb, if_true]
          exact pu
        · exact hR v' h2 tk2 hv fun b o hbw hbS e => k2 b o hbw hbS ((oth hbS).trans (keep b o hbw e))
      | false =>
        rw [if_neg Bool.false_ne_true]
        refine wpAny_bind (wpAny_letGo ?_)
        rw [nm]
        refine wpAny_pure ⟨plainId_quiet F.plain_max_loop _, ih (i + 2) _ c _ (by omega) lt st' (.inr ⟨i + 1, v, rfl, rfl, ?_⟩) hS' fun v' h2 tk2 hv k2 => ?_⟩
        · simp only [argBest, hb, Bool.false_eq_true, if_false]
          exact pv
        · exact hR v' h2 tk2 hv fun b o hbw hbS e => k2 b o hbw hbS (keep b o hbw e)
end
section
variable {prog : Program} {w : World} {A : Around} {E : Value → Shared → Prop} {s : Shared} {l : Addr} {its : List Value} {ns : List Int} {Q : Value → Shared → Prop} {d : Value}
theorem maxD_args (a d : Value) : argsOk "max" ⟨[a], maxKw d⟩ := by unfold argsOk; kernel_rfl
theorem maxD_call (hh : A.handled = none) (hl : s.heap.IsList l its.toArray) (hi : IntsAre its ns)
    (h : ∀ h' tk v, (∀ b o, s.heap.get? b = some o → h'.get? b = some o) → ((ns = [] ∧ v = d) ∨ ∃ m t, v = .int m t ∧ m ∈ ns ∧ ∀ a, a ∈ ns → a ≤ m) → Q v { s with heap := h', toks := tk }) : wpAny (model prog w) A (call (.builtin "max") [.ref l] (maxKw d)) Q E s := by
  obtain ⟨xs, e⟩ := hi.allInts.items
  have hn : numsOf (intItems xs).toList = ns := by rw [← e]; exact hi.numsOf
  rw [nums_intItems] at hn
  subst hn
  rw [e] at hl
  have nm : (toString "max" ++ toString ".loop" : String) = "max.loop" := by decide
  refine wpAny_call (codeAny_call_builtin F.plain_max F.entry_max ?_)
  have main : wpAny (model prog w) A.in1 (Builtin.«max» ⟨[.ref l], maxKw d⟩) (fun fin s' => match fin with
      | .done f => (match (Except.ok f : Result) with | .ok (.ret v) => Q v s' | .ok _ => False | .error e => E e s')
      | .again c' => c'.quiet = true ∧ codeAny (model prog w) A c' (fun r s' => match r with | .ok (.ret v) => Q v s' | .ok _ => False | .error e => E e s') s') E s := by
    show wpAny _ A.in1 (Builtin.Builtins.bindParams "max" ["key", "default"] 0 ⟨[], maxKw d⟩ >>= _) _ _ s
    refine wpAny_bind (wpAny_of_eq (show Builtin.Builtins.bindParams "max" ["key", "default"] 0 ⟨[], maxKw d⟩ = pure [none, some d] from rfl) ?_)
    refine wpAny_bind (wpAny_pure ?_)
    refine wpAny_bind (iter_intList hl fun s2 es st hfp hlI => ?_)
    refine wpAny_bind (wpAny_newObj_type ?_)
    have W : Walks prog w A.in1 s.heap.objs.size _ _ _ _ _ := Walks.list (A := A.in1) hh _ l hlI (intItems xs)
    have hSf : s2.heap.objs.size ∉ [s.heap.objs.size, l] := fun hm => Nat.lt_irrefl _ (hfp _ hm)
    rw [nm]
    refine wpAny_pure ⟨plainId_quiet F.plain_max_loop _, maxD_walk W (CmpOf.ints_gt (numAt xs) (fun _ _ => intItems_at)) hSf _ 0 _ _ _ rfl (Nat.zero_le _) (W.frame _ _ _ st fun b _ o e => Heap.get?_push_of_some _ e) (.inl ⟨rfl, rfl⟩) (Heap.get?_push_size _ rfl) fun v h' tk hv keep => ?_⟩
    subst es
    refine h h' tk v (fun b o eb => ?_) ?_
    · have lt : b < s.heap.objs.size := Heap.lt_size eb
      refine keep b o (fun hm => ?_) (fun z => ?_) (Heap.get?_push_of_some _ (Heap.get?_push_of_some _ eb))
      · rw [List.mem_singleton] at hm
        exact absurd (hm ▸ lt) (Nat.lt_irrefl _)
      · rw [z, Heap.size_push] at lt
        exact absurd lt (Nat.not_lt_of_le (Nat.le_succ _))
    · rcases hv with ⟨h0, hd⟩ | ⟨h0, hp⟩
      · refine .inl ⟨?_, hd⟩
        have : xs.size = 0 := by simpa [intItems] using h0
        rw [Array.eq_empty_of_size_eq_zero this]
        rfl
      · have hsz : 0 < xs.size := by simpa [intItems] using h0
        have hp : (intItems xs)[argBest (fun i j => decide (numAt xs i > numAt xs j)) (xs.size - 1)]? = some v := by simpa [intItems] using hp
        obtain ⟨t, rfl⟩ := intItems_at hp
        obtain ⟨h1, h2⟩ := argBest_gt (numAt xs) (xs.size - 1)
        refine .inr ⟨_, t, rfl, ?_, fun a ha => ?_⟩
        · rw [numAt_eq]; exact PySem.getD_mem (by rw [List.length_map, Array.length_toList]; omega)
        · obtain ⟨j, hj, rfl⟩ := mem_getD ha
          rw [List.length_map, Array.length_toList] at hj
          rw [← numAt_eq]; exact h2 j (by omega)
  simp only [checkBuiltinCall, F.kind_max]
  cases hsig : Manifest.signature? "max" with
  | none => exact wpAny_pure main
  | some sig =>
    have ha := maxD_args (.ref l) d
    simp only [argsOk, hsig] at ha
    have h2 : Bind.checkArgs "max" sig ⟨[.ref l], maxKw d⟩ = pure () := ha
    show wpAny _ A.in1 (Bind.checkArgs "max" sig ⟨[.ref l], maxKw d⟩) _ _ s
    rw [h2]
    exact wpAny_pure main
end
/-- max(xs, default=None) -/
def rMaxD (K : PySem.W.Frag) : List V → List V → Hp → VK → Prop := fun vs zs H Q => ∃ (a : Addr) (ns : List Int), vs = [V.ref a] ∧ zs = [.non] ∧ SqL K H a (ns.map V.int) ∧ (ns = [] → Q .non H) ∧ ∀ m, m ∈ ns → (∀ y, y ∈ ns → y ≤ m) → Q (.int m) H
theorem cr_maxD {X : Cx} (hc : X.calm = true) : CallRK X (.builtin "max") [Str.ofString "default"] (rMaxD X.K) := by
  intro pins s σ H xs zs us ws Q I r r2 h
  obtain ⟨a, ns, rfl, rfl, hs, q0, q⟩ := h
  obtain ⟨its, rv, hl, _⟩ := I.list hs
  rw [Vals.ref1 r]
  cases r2 with
  | cons r3 t3 =>
    cases t3
    cases r3
    refine maxD_call (d := .none) (I.ok.hd hc) hl.isList rv.ints fun h' tk v hk hv => ?_
    rcases hv with ⟨e, rfl⟩ | ⟨m, t, rfl, h1, h2⟩
    · exact ⟨.non, H, I.kept hk, rfl, q0 e⟩
    · exact ⟨.int _, H, I.kept hk, ⟨_, rfl⟩, q m h1 h2⟩
def maxDC (xs : List Int) : Option (Option Int) := if xs = [] then some none else (maxL xs).bind fun m => some (some m)
section
variable {K : PySem.W.Frag} {es : List Sl} {te : TE}
theorem ev_maxD {ns : List Int} {m : Option Int} (ha : Ev K te es (.lst (ns.map .int))) (h : maxDC ns = some m) : Ev K (tCKw (rMaxD K) (tCons te tNil) (tCons (tC .non) tNil)) es (dO Dt.int m) := fun F G H σ s Q q =>
  ha F G H σ s _ fun v G1 H1 s1 g1 r1 => by
    show rMaxD K [v] [.non] H1 Q
    cases r1 with
    | lst hh r =>
      have e := ints_of r
      subst e
      refine ⟨_, ns, rfl, rfl, s1.g.seq hh, fun e0 => ?_, fun k h1 h2 => ?_⟩
      · unfold maxDC at h
        rw [if_pos e0] at h
        cases h
        exact q _ G1 H1 s1 g1 .non
      · have ne : ns ≠ [] := fun e => by rw [e] at h1; cases h1
        unfold maxDC at h
        rw [if_neg ne] at h
        cases hm : maxL ns with
        | none => rw [hm] at h; cases h
        | some z =>
          rw [hm] at h
          cases h
          obtain ⟨k1, k2⟩ := maxL_spec hm
          have : k = z := Int.le_antisymm (k2 k h1) (h2 z k1)
          subst this
          exact q _ G1 H1 s1 g1 (.int _)
/-- a list none of whose values is left out -/
def allC {α : Type} : List (Option α) → Option (List α)
  | [] => some []
  | x :: xs => x.bind fun a => (allC xs).bind fun b => some (a :: b)
theorem allC_map {α : Type} {em : α → Dt} : ∀ {xs : List (Option α)} {ys : List α}, allC xs = some ys → xs.map (dO em) = ys.map em
  | [], ys, h => by cases h; rfl
  | x :: xs, ys, h => by
    unfold allC at h
    cases x with
    | none => cases h
    | some a =>
      have h : (allC xs).bind (fun b => some (a :: b)) = some ys := h
      cases p : allC xs with
      | none => rw [p] at h; cases h
      | some b =>
        rw [p] at h
        cases h
        rw [List.map_cons, List.map_cons, allC_map p]
        rfl
theorem ev_unL {α : Type} {em : α → Dt} {xs : List (Option α)} {ys : List α} (h : allC xs = some ys) (ha : Ev K te es (.lst (xs.map (dO em)))) : Ev K te es (.lst (ys.map em)) := by
  rw [← allC_map h]
  exact ha
/-- isinstance of a number that may be left out -/
theorem ev_isiOI {ta tb : TE} {o : Option Int} (ha : Ev K ta es (dO Dt.int o)) (hb : Ev K tb es (.ty "int")) : Ev K (tCB (rIsi K) (tCons ta (tCons tb tNil))) es (.bl o.isSome) := by
  cases o with
  | none => exact ev_isi (n := "int") (t := "NoneType") rfl (by decide) (by decide) (by decide +kernel) ha hb
  | some i => exact ev_isi (n := "int") (t := "int") (b := true) rfl (by decide) (by decide) (by decide +kernel) ha hb
theorem ev_isiOB {ta tb : TE} {o : Option Int} (ha : Ev K ta es (dO Dt.int o)) (hb : Ev K tb es (.ty "bool")) : Ev K (tCB (rIsi K) (tCons ta (tCons tb tNil))) es (.bl false) := by
  cases o with
  | none => exact ev_isi (n := "bool") (t := "NoneType") rfl (by decide) (by decide) (by decide +kernel) ha hb
  | some i => exact ev_isi (n := "bool") (t := "int") rfl (by decide) (by decide) (by decide +kernel) ha hb
end
/-! x in a tuple of data of any depth -/
def inD (a : Dt) (ds : List Dt) : Bool := ds.any fun z => eqD z a
theorem any_pds (a : Dt) : ∀ ds : List Dt, (pds ds).any (fun z => PyData.eqv z (pd a)) = inD a ds
  | [] => rfl
  | d :: ds => by
    show ((pd d :: pds ds).any fun z => PyData.eqv z (pd a)) = _
    rw [List.any_cons, any_pds a ds]
    rfl
section
variable {X : Cx}
def rInTD (K : PySem.W.Frag) (neg : Bool) : R2 := fun x y H Q => ∃ d ds, Dp K H x d ∧ Dp K H y (.tuple ds) ∧ (d.canLay0 = true ∧ d.depth ≤ 60) ∧ SeqAt.shaped (.tuple ds) = true ∧ Q (.bl (if neg = true then !ds.any (fun z => PyData.eqv z d) else ds.any fun z => PyData.eqv z d)) H
theorem room_inT {xs : List PyData} {d : PyData} {u : Nat} (sd : d.canLay0 = true ∧ d.depth ≤ 60) (hu : u + 64 < cLine) : u + 1 + min (PyData.depthAll xs) d.depth < cLine := by
  have := sd.2
  have := Nat.min_le_right (PyData.depthAll xs) d.depth
  omega
theorem op_inTD (hu : X.A.units + 64 < cLine) : OpR X (compareOp .In) (rInTD X.K false) := by
  intro pins s σ H x y v u Q I rx ry h
  obtain ⟨d, ds, hd, he, sd, se, q⟩ := h
  obtain ⟨as, r1⟩ := Dp.reads I d x v hd rx
  obtain ⟨bs, r2⟩ := Dp.reads I (.tuple ds) y u he ry
  exact SeqAt.in_tuple_reads r2 r1 (SeqAt.canLay_of_shaped se) sd.1 (room_inT sd hu) ⟨.bl _, H, I, rfl, q⟩
theorem op_ninTD (hu : X.A.units + 64 < cLine) : OpR X (compareOp .NotIn) (rInTD X.K true) := by
  intro pins s σ H x y v u Q I rx ry h
  obtain ⟨d, ds, hd, he, sd, se, q⟩ := h
  obtain ⟨as, r1⟩ := Dp.reads I d x v hd rx
  obtain ⟨bs, r2⟩ := Dp.reads I (.tuple ds) y u he ry
  exact SeqAt.notIn_tuple_reads r2 r1 (SeqAt.canLay_of_shaped se) sd.1 (room_inT sd hu) ⟨.bl _, H, I, rfl, q⟩
end
section
variable {K : PySem.W.Frag} {es : List Sl} {ta tb : TE} {a : Dt} {ds : List Dt}
theorem ev_inTD (sa : SH 60 a) (sb : SH 64 (.tup ds)) (ha : Ev K ta es a) (hb : Ev K tb es (.tup ds)) : Ev K (tOp (rInTD K false) ta tb) es (.bl (inD a ds)) := ev_op ha hb fun F G H σ es x y s rx ry Q q => by
  have e : pd (.tup ds) = .tuple (pds ds) := by simp only [pd]
  have d2 := sb.dp s.g ry
  have s2 := shaped_of sb
  rw [e] at d2 s2
  refine ⟨pd a, pds ds, sa.dp s.g rx, d2, sa.lay, s2, ?_⟩
  rw [any_pds]
  exact q _ G H s (Same.refl _) (.bl _)
theorem ev_ninTD (sa : SH 60 a) (sb : SH 64 (.tup ds)) (ha : Ev K ta es a) (hb : Ev K tb es (.tup ds)) : Ev K (tOp (rInTD K true) ta tb) es (.bl (!inD a ds)) := ev_op ha hb fun F G H σ es x y s rx ry Q q => by
  have e : pd (.tup ds) = .tuple (pds ds) := by simp only [pd]
  have d2 := sb.dp s.g ry
  have s2 := shaped_of sb
  rw [e] at d2 s2
  refine ⟨pd a, pds ds, sa.dp s.g rx, d2, sa.lay, s2, ?_⟩
  rw [any_pds]
  exact q _ G H s (Same.refl _) (.bl _)
end
end DL
namespace DL
open PySem PySem.Spec PyProof.Rows L2
/-! values of one of several classes; a suite's rest, way by way -/
abbrev dS {α β : Type} (e1 : α → Dt) (e2 : β → Dt) : α ⊕ β → Dt := Sum.elim e1 e2
/-- one statement, understood in two ways -/
def tAlt (t u : TS) : TS := fun D σ H => t D σ H ∨ u D σ H
theorem ps_alt {X : Cx} {st : Stmt} {t u : TS} (h1 : PS X st t) (h2 : PS X st u) : PS X st (tAlt t u) := ⟨fun pins s σ H D I h => h.elim (h1.run pins s σ H D I) (h2.run pins s σ H D I)⟩
section
variable {K : PySem.W.Frag} {es es' : List Sl} {ρ : Type} {t u tz : TS} {m : Option ρ} {oc : ρ → Res}
theorem sm_alt1 (h : SM K (tSeq t tz) es m oc) : SM K (tSeq (tAlt t u) tz) es m oc := fun r e F G H σ D s q => .inl (h r e F G H σ D s q)
theorem sm_alt2 (h : SM K (tSeq u tz) es m oc) : SM K (tSeq (tAlt t u) tz) es m oc := fun r e F G H σ D s q => .inr (h r e F G H σ D s q)
theorem sm_es (e : es = es') (h : SM K t es' m oc) : SM K t es m oc := e ▸ h
theorem sm_sum {α β : Type} {v : α ⊕ β} {ev : α ⊕ β → List Sl} {f : α → Option ρ} {g : β → Option ρ} (h1 : ∀ x, SM K t (ev (.inl x)) (f x) oc) (h2 : ∀ y, SM K t (ev (.inr y)) (g y) oc) : SM K t (ev v) (Sum.elim f g v) oc := by
  cases v with
  | inl x => exact h1 x
  | inr y => exact h2 y
theorem kit_other {C D : Addr} (k1 : PySem.W.mroIn K C (.ref D) = some false) (k2 : PySem.W.mroIn K C (.ref C) = some true) (k3 : PySem.W.isClsIn K D = true) (k4 : PySem.W.typeIn K (.ref D) = some (.type "type")) : PySem.W.kitOne K (.ref C) (.ref D) = some false := by
  have ne : ¬ (Value.ref C == Value.ref D) = true := fun h => by
    have e : Value.ref C = Value.ref D := beq_iff_eq.mp h
    cases e
    rw [k2] at k1
    cases k1
  unfold PySem.W.kitOne
  rw [if_neg ne]
  unfold PySem.W.kitCls
  have k3 : (PySem.W.clsIn K D).isSome = true := k3
  have c : ((PySem.W.clsIn K D).isSome && PySem.W.typeIn K (.ref D) == some (.type "type")) = true := by
    rw [k3, k4]
    decide
  exact (if_pos c).trans k1
/-- isinstance of an object of another class -/
theorem ev_isiF {ta : TE} {C D : Addr} {fs : List (Str × Dt)} (cl : Cls K C) (h1 : PySem.W.findIn K (.ref C) "__class__" = some (some (.builtin "object.__class__"))) (h2 : PySem.W.specialIn K (.builtin "object.__class__") "__get__" = some (some (.builtin "getset_descriptor.__get__")))
    (h3 : PySem.W.takesIn K (.builtin "object.__class__") = some true) (h4 : PySem.W.mroIn K C (.type "object") = some true) (k1 : PySem.W.mroIn K C (.ref D) = some false) (k2 : PySem.W.mroIn K C (.ref C) = some true) (k3 : PySem.W.isClsIn K D = true) (k4 : PySem.W.typeIn K (.ref D) = some (.type "type")) (ha : Ev K ta es (.obj C fs)) : Ev K (tCB (rIsi K) (tCons ta (tCons (tC (.ref D)) tNil))) es (.bl false) := fun F G H σ s Q q =>
  ha F G H σ s _ fun x G1 H1 s1 g1 r1 => by
    cases r1 with
    | obj h r => exact ⟨_, _, _, _, false, rfl, .own D, .base (.ins (s1.g _ _ h) cl h1 h2 h3 h4), kit_other k1 k2 k3 k4, q _ G1 H1 s1 g1 (.bl _)⟩
/-! range(a, b, c), c a written number from 1 on -/
def rngS (lo hi c : Int) : List Int := (List.range (Builtin.Range.rangeSize lo hi c).toNat).map fun (i : Nat) => lo + (i : Int) * c
def rngSC (lo hi c : Int) : Option (List Int) := if -(2 ^ 62) ≤ lo ∧ lo < 2 ^ 62 ∧ -(2 ^ 62) ≤ hi ∧ hi < 2 ^ 62 ∧ 0 < c ∧ c < 1000000 then some (rngS lo hi c) else none
theorem small_up {a b c : Int} (ha : -(2 ^ 62) ≤ a) (ha' : a < 2 ^ 62) (hb : -(2 ^ 62) ≤ b) (hb' : b < 2 ^ 62) (hc : 0 < c) (hc' : c < 1000000) : Builtin.Range.small a b c = true ∧ 0 ≤ Builtin.Range.rangeSize a b c := by
  unfold Builtin.Range.small Builtin.Range.rangeSize
  rw [if_pos (show c > 0 from hc)]
  have h0 : a < b → 0 ≤ (b - a - 1) / c ∧ (b - a - 1) / c ≤ b - a - 1 := fun h => ⟨Int.ediv_nonneg (by omega) (by omega), Int.ediv_le_self _ (by omega)⟩
  simp only [Builtin.Range.rangeFitsLong, Bool.and_eq_true, Bool.or_eq_true, decide_eq_true_eq, beq_iff_eq]
  split
  · rename_i h
    have := h0 h
    refine ⟨⟨by omega, .inr ?_⟩, by omega⟩
    rw [Bool.and_eq_true, decide_eq_true_eq, decide_eq_true_eq]
    omega
  · omega
theorem yields_rngS {G : Hp} {lo c : Int} {n : Nat} : Yields K (Itc lo c n) G (((List.range n).map fun (i : Nat) => lo + (i : Int) * c).map Dt.int) := fun i F G1 H1 σ es g s => by
  refine ⟨fun d e => ?_, fun e => by rw [List.length_map, List.length_map, List.length_range] at e; exact e⟩
  rw [List.getElem?_map, List.getElem?_map] at e
  by_cases hi : i < n
  · rw [List.getElem?_range hi] at e
    cases e
    refine ⟨hi, fun x H2 y => ?_⟩
    obtain ⟨e1, e2⟩ := y
    subst e1 e2
    exact ⟨G1, s, Same.refl _, .int _⟩
  · rw [List.getElem?_eq_none (by simpa using hi)] at e
    cases e
theorem ei_rngS {ta : TA} {lo hi c : Int} {xs : List Int} (h : EvA K ta es [.int lo, .int hi, .int c]) (e : rngSC lo hi c = some xs) : EvI K (iRng3 ta) es (xs.map Dt.int) := fun F G H σ s R q => h F G H σ s _ fun vs G1 H1 s1 g1 r1 => by
  obtain ⟨⟨a1, a2, a3, a4, a5, a6⟩, e⟩ := ite_some e
  subst e
  cases r1 with
  | cons ra rr =>
    cases ra
    cases rr with
    | cons rb rr =>
      cases rb
      cases rr with
      | cons rc rr =>
        cases rc
        cases rr
        obtain ⟨sm, z⟩ := small_up a1 a2 a3 a4 a5 a6
        exact ⟨lo, hi, c, _, rfl, ⟨by omega, by omega, sm, by omega⟩, q _ G1 H1 s1 g1 yields_rngS⟩
end
/-- an expression that is never reached -/
def tNevE : TE := fun _ _ _ => False
theorem pe_nev {X : Cx} {e : Expr} : PE X e tNevE := ⟨fun _ _ _ _ _ _ h => h.elim⟩
end DL

open PySem PySem.Spec PyProof.Rows L2
namespace DL
section
variable {K : PySem.W.Frag} {es : List Sl} {te : TE}
theorem ev_cutD {tl th : TO} {lo hi : Option Int} {ds : List Dt} (ha : Ev K te es (.tup ds)) (hl : EvO K tl es lo) (hh : EvO K th es hi) : Ev K (tSl (rSlA K) te tl th) es (.tup (cutL ds lo hi)) := fun F G H σ s Q q =>
  ha F G H σ s _ fun x G1 H1 s1 g1 r1 => hl F G1 H1 σ s1 _ fun G2 H2 s2 g2 => hh F G2 H2 σ s2 _ fun G3 H3 s3 g3 => by
    cases r1 with
    | tup h r =>
      have r := (r.mono g2).mono g3
      refine ⟨_, _, rfl, sqT_mono s3.g (sqT_mono g3 (sqT_mono g2 h)), fun hw => ?_, fun hw p hp => ?_⟩
      · refine q _ G3 H3 s3 (g1.trans (g2.trans g3)) ?_
        have e : cutL ds lo hi = ds := by
          unfold cutL
          rw [← r.length, hw.1, hw.2, List.drop_zero, Nat.sub_zero, List.take_of_length_le (by rw [r.length]; exact Nat.le_refl _)]
        rw [e]
        exact .tup (sqT_mono g3 (sqT_mono g2 h)) r
      · have hg := s3.gnone hp
        refine q _ _ _ (s3.new hp) (g1.trans (g2.trans (g3.trans (same_upd hg)))) (.tup (.inl (.inl upd_same)) (Reps.mono (same_upd hg) ?_))
        unfold cutV cutL
        rw [r.length]
        exact (r.drop _).take _
theorem ev_cutT {α : Type} {em : α → Dt} {tl th : TO} {lo hi : Option Int} {xs : List α} (ha : Ev K te es (.tup (xs.map em))) (hl : EvO K tl es lo) (hh : EvO K th es hi) : Ev K (tSl (rSlA K) te tl th) es (.tup ((cutL xs lo hi).map em)) := by
  rw [← cutL_map]
  exact ev_cutD ha hl hh
end
/-! o.m(.., k = v, ..) -/
def tMethK (C : Addr) (m : Str) (n mm : Nat) (sp : Sp) (gV : List V → List V → List V) (E : XK) (ta : TE) (t tk : TA) : TE := fun σ H Q => ta σ H fun x H1 => ∃ a dx fs, x = .ref a ∧ H1 a = some (.ins C dx fs) ∧ fs.lookup m = none ∧
  t σ H1 fun vs H2 => tk σ H2 fun zs H3 => vs.length + 1 = n ∧ zs.length = mm ∧ sp (gV (x :: vs) zs) H3 Q E
section
variable {X : Cx} {CX : CXT} {k n : Nat} {C f : Addr} {m : Str} {fd : FuncData} {ps ks : List Str} {sp : Sp} {E : XK} {o e : Expr} {es : List Expr} {kws : List Keyword} {ta : TE} {t tk : TA} {apos pos : Pos} {g : List Value → List Value → List Value} {gV : List V → List V → List V}
theorem pe_methK {pl : Sem Bool} (he : PE X o ta) (c : Cls X.K C) (hm : Meth X.K C m f) (F : FnOk X.prog X.w X.K X.mg X.base CX k f fd ps sp) (hr : Room k X.A) (hb : KBn X.K fd ps n ks g gV) (hx : Passes CX X E) (ha : PA X (e :: es) t)
    (hkw : PK X kws tk) (hall : (backToKw pos (keywordEach kws X.env)).all (·.1.isSome) = true := by rfl) (hks : (backToKw pos (keywordEach kws X.env)).filterMap (·.1) = ks := by rfl)
    (hst : starEach (e :: es) X.env = (false, eval e X.env) :: starEach es X.env := by rfl)
    (hpl : ((backTo pos (starEach (e :: es) X.env)).any (·.1) || (backToKw pos (keywordEach kws X.env)).any (·.1.isNone)) = false := by rfl)
    (ht : eval (.Call (.Attribute o m apos) (e :: es) kws pos) X.env = (do
      let ov ← eval o X.env
      standAt apos.atName
      let (f, first) ← holding [ov] (getMethod ov m pl)
      callWith pos f first (backTo pos (starEach (e :: es) X.env)) (backToKw pos (keywordEach kws X.env))) := by rfl) :
    PE X (.Call (.Attribute o m apos) (e :: es) kws pos) (tMethK C m n ks.length sp gV E ta t tk) := by
  refine ⟨fun pins s σ H Q I h => ?_⟩
  refine PySem.W.methodCall_KW (pl := pl) (thn (he.run pins s σ H _ I h) fun u s1 ⟨x, H1, I1, rx, a, dx, fs, ex, ea, l, q⟩ => ?_) ht
  subst ex
  obtain rfl : u = Value.ref a := rx
  refine getmeth_ok I1 ea c hm l ?_
  refine PySem.W.callWith_KW (first := [.ref a]) (h₀ := X.base) I.ok.mod.kin hm.kp hall (thn (ha.run pos pins s1 σ H1 _ I1 q) fun us s2 ⟨vs, H2, I2, r, q2⟩ => ?_) hpl hst
  refine thn (hkw.run pos pins s2 σ H2 _ I2 q2) fun ws s3 ⟨zs, H3, I3, rz, l1, l2, q3⟩ => ⟨I3.kIn, ?_⟩
  rw [hks]
  exact run_fnN (us := .ref a :: us) (vs := .ref a :: vs) F hr hb hx I3 (.cons rfl r) rz l1 l2 q3
end
section
variable {K : PySem.W.Frag} {es : List Sl} {ta tk : TA} {E : XK}
theorem ev_methK {P : List Dt → Dt → Prop} {to : TE} {C : Addr} {fs : List (Str × Dt)} {m : Str} {d : Dt} {n mm : Nat} {fV : List V → List V → List V} {ds ks ds' : List Dt} (ho : Ev K to es (.obj C fs)) (hm : fs.lookup m = none) (ha : EvA K ta es ds) (hk : EvA K tk es ks)
    (hn : ds.length + 1 = n) (hmm : ks.length = mm) (hf : ∀ G vs zs, Reps K G vs (.obj C fs :: ds) → Reps K G zs ks → Reps K G (fV vs zs) ds') (hP : P ds' d) : Ev K (tMethK C m n mm (FSpec K (RD P)) fV E to ta tk) es d := fun F G H σ s Q q =>
  ho F G H σ s _ fun x G0 H0 s0 g0 r0 => by
    have r0' := r0
    cases r0 with
    | obj h rf =>
      refine ⟨_, _, _, rfl, s0.g _ _ h, rf.lookup_none hm, ?_⟩
      exact ha F G0 H0 σ s0 _ fun vs G1 H1 s1 g1 r1 => hk F G1 H1 σ s1 _ fun zs G2 H2 s2 g2 r2 => ⟨by rw [r1.length]; exact hn, by rw [r2.length]; exact hmm,
        rem G2 H2, G2, ds'.map .d, d, ds'.map .d, stt_data s2.rem.1 s2.g s2.rem.2 (hf G2 _ zs (.cons (r0'.mono (g1.trans g2)) (r1.mono g2)) r2), ⟨_, rfl, rfl, hP⟩, fun v G3 H3 s3 g3 r3 =>
        q v G3 H3 (s2.after s3.f s3.g s3.dj g3) (g0.trans (g1.trans (g2.trans g3))) r3⟩
end
section
variable {K : PySem.W.Frag}
/-- a def with keyword-only parameters that have no defaults: all are given -/
theorem kbindsN {x qual : Str} {st : Stmt} {f : Addr} {fd : FuncData} {ps : List Str} (F : Fun K x qual st f fd) (n : Nat) (ks : List Str) (g : {α : Type} → List α → List α → List α)
    (hrel : ∀ {vs zs : List V} {us ws : List Value}, Vals vs us → Vals zs ws → Vals (g vs zs) (g us ws))
    (h : ∀ (kV doc pm : Value) (an : Option Addr) (cdv ct : Value) (us ws : List Value), us.length = n → ws.length = ks.length → bindArgs (PySem.W.fnOf x qual (defArgs st) (defBody st) (defScope st) .none kV doc pm an cdv ct) ⟨us, ks.zip ws⟩ = pure (ps.zip (g us ws))) :
    ∃ mv : List Value, KBn K fd ps n ks (fun us ws => g us ws) (fun vs zs => g vs zs) := by
  obtain ⟨oc, od, kV, doc, pm, an, cdv, ct, osl, rfl, lk, hcd⟩ := F.ex
  exact ⟨[], ⟨fun s us ws X l1 l2 => BindsTo.of_eq (h kV doc pm an cdv ct us ws l1 l2), fun r1 r2 => hrel r1 r2⟩⟩
end
/-- a constant: a tuple of numbers or texts -/
theorem relS {s : Str} {t : Tok} : RelV (.str s) (.str s t) := ⟨t, rfl⟩
theorem tupc_mk {K : PySem.W.Frag} {a : Addr} {od : Option Addr} {its : Array Value} {n : Nat} {sl : Array (Option Value)} (xs : List V) (items : List Value) {ds : List Dt} (l : K.lookup a = some ⟨.type "tuple", od, .seq its n, sl⟩) (hz : its = items.toArray) (hs : Nat.ble items.length 1000 = true) (r : Vals xs items)
    (q : ∀ G : Hp, Reps K G xs ds) : ∀ G : Hp, Rep K G (.ref a) (.tup ds) := fun G => by
  subst hz
  refine .tup (.inr ⟨_, _, n, l, rfl, rfl, ?_, r⟩) (q G)
  rw [List.size_toArray]
  exact Nat.le_trans (Nat.le_of_ble_eq_true hs) (by decide)
/-- a text that is known -/
abbrev dK (s : Str) (_ : Unit) : Dt := .str s
/-- one expression, understood in two ways -/
def tAltE (t u : TE) : TE := fun σ H Q => t σ H Q ∨ u σ H Q
theorem pe_alt {X : Cx} {e : Expr} {t u : TE} (h1 : PE X e t) (h2 : PE X e u) : PE X e (tAltE t u) := ⟨fun pins s σ H Q I h => h.elim (h1.run pins s σ H Q I) (h2.run pins s σ H Q I)⟩
section
variable {K : PySem.W.Frag} {es : List Sl} {t1 t2 : TE}
theorem ev_alt1 {d : Dt} (h : Ev K t1 es d) : Ev K (tAltE t1 t2) es d := fun F G H σ s Q q => .inl (h F G H σ s Q q)
theorem ev_alt2 {d : Dt} (h : Ev K t2 es d) : Ev K (tAltE t1 t2) es d := fun F G H σ s Q q => .inr (h F G H σ s Q q)
theorem ev_split {α β γ : Type} {em : γ → Dt} {f : α → Option γ} {g : β → Option γ} {s : α ⊕ β} (h1 : ∀ a, s = .inl a → ∀ r, f a = some r → Ev K t1 es (em r)) (h2 : ∀ b, s = .inr b → ∀ r, g b = some r → Ev K t2 es (em r)) :
    ∀ r, Sum.elim f g s = some r → Ev K (tAltE t1 t2) es (em r) := fun r h => by
  cases s with
  | inl a => exact ev_alt1 (h1 a rfl r h)
  | inr b => exact ev_alt2 (h2 b rfl r h)
end
/-! tests whose answer is known -/
section
variable {K : PySem.W.Frag} {es : List Sl} {ρ : Type} {tt : TT} {t u tz : TS} {m : Option ρ} {oc : ρ → Res} {b : Bool} {ta tb : TE} {d : Dt}
theorem sm_ifT (h : EvT K tt es b) (e : b = true) (h1 : SM K (tSeq t tz) es m oc) : SM K (tSeq (tIfS tt t u) tz) es m oc := by
  have q := sm_if (u := u) (q := none) h (fun _ => h1) (fun z => by rw [e] at z; cases z)
  rw [if_pos e] at q
  exact q
theorem sm_ifF (h : EvT K tt es b) (e : b = false) (h1 : SM K (tSeq u tz) es m oc) : SM K (tSeq (tIfS tt t u) tz) es m oc := by
  subst e
  have q := sm_if (t := t) (p := none) h (fun z => nomatch z) (fun _ => h1)
  exact q
theorem ev_ifT (h : EvT K tt es b) (e : b = true) (h1 : Ev K ta es d) : Ev K (tIf tt ta tb) es d := by
  subst e
  exact ev_if h (fun _ => h1) fun e => nomatch e
theorem ev_ifF (h : EvT K tt es b) (e : b = false) (h1 : Ev K tb es d) : Ev K (tIf tt ta tb) es d := by
  subst e
  exact ev_if h (fun e => nomatch e) fun _ => h1
end
/-- an item of a tuple whose first item is of another kind -/
def atO {α : Type} (xs : List (Option α)) (i : Int) : Option α := (atC xs i).bind id
theorem ev_ixTO {K : PySem.W.Frag} {es : List Sl} {ta tb : TE} {α : Type} {em : α → Dt} {d0 : Dt} {xs : List α} {i : Int} {x : α} (ha : Ev K ta es (.tup (d0 :: xs.map em))) (hb : Ev K tb es (.int i)) (h : atO (none :: xs.map some) i = some x) : Ev K (tOp (rIxT K) ta tb) es (em x) := by
  have e : d0 :: xs.map em = ((none :: xs.map some : List (Option α))).map (fun o => o.elim d0 em) := by
    rw [List.map_cons, List.map_map]
    rfl
  rw [e] at ha
  unfold atO at h
  cases q : atC (none :: xs.map some) i with
  | none => rw [q] at h; cases h
  | some o =>
    rw [q] at h
    have h : o = some x := h
    subst h
    exact ev_ixTC (em := fun o : Option α => o.elim d0 em) ha hb q
end DL

/-! Dl14: what the head's facts are for, over the base (the head itself is in Dl0) -/
namespace Hd
open PySem PySem.Spec PyProof.Rows L2 He
theorem nul_ok {K : PySem.W.Frag} {a : Addr} (h : nulB K a = true) : ∀ G : Hp, DL.Rep K G (.ref a) (.tup []) := fun G => by
  unfold nulB at h
  cases q : K.lookup a with
  | none =>
    rw [q] at h
    cases h
  | some o =>
    obtain ⟨oc, od, dt, osl⟩ := o
    rw [q] at h
    cases oc with
    | type c =>
      cases dt with
      | seq its n =>
        obtain ⟨h1, h2⟩ := ba (show (decide (c = "tuple") && its.toList.isEmpty) = true from h)
        have e : its.toList = [] := List.isEmpty_iff.mp h2
        refine .tup (xs := []) (.inr ⟨_, its, n, q, congrArg Value.type (of_decide_eq_true h1), rfl, ?_, ?_⟩) .nil
        · have : its.size = its.toList.length := rfl
          rw [this, e]
          exact Nat.zero_le _
        · rw [e]
          exact .nil
      | _ => cases h
    | _ => cases dt <;> cases h
section
variable {cks : List (List Ck)} {fn : List DefD} {ex : List ExD} {K : PySem.W.Frag}
theorem SaysX.fact (c : SaysX cks fn ex K) (i j : Nat) {l : List Ck} {f : Ck} (h : cks[i]? = some l) (h2 : l[j]? = some f) : f K = true := by
  have c1 := (ba (show ((cks.all fun l => l.all fun f => f K) && fn.all fun d => d.ok K) = true from congrArg (fun z : AlX => z.1) c)).1
  exact List.all_eq_true.mp (List.all_eq_true.mp c1 l (List.mem_of_getElem? h)) f (List.mem_of_getElem? h2)
theorem SaysX.def_ (c : SaysX cks fn ex K) (i : Nat) {d : DefD} (h : fn[i]? = some d) : ∃ fd, FunD K d.name d.qual d.params d.body d.scope (d.dvs K) (d.kws K) (fAd K d.at_) fd := by
  have c2 := (ba (show ((cks.all fun l => l.all fun f => f K) && fn.all fun d => d.ok K) = true from congrArg (fun z : AlX => z.1) c)).2
  have e : fn.map (fun d => fnW K d.at_) = fn.map DefD.val := congrArg (fun z : AlX => z.2.1) c
  have e2 : (fn.map fun d => fnW K d.at_)[i]? = (fn.map DefD.val)[i]? := by rw [e]
  rw [List.getElem?_map, List.getElem?_map, h] at e2
  exact DefD.funD (Option.some.inj e2) (List.all_eq_true.mp c2 d (List.mem_of_getElem? h))
theorem SaysX.exc_ (c : SaysX cks fn ex K) (i : Nat) {d : ExD} (h : ex[i]? = some d) : fnY K (exAd K d) = d.val := by
  have e : ex.map (fun d => fnY K (exAd K d)) = ex.map ExD.val := congrArg (fun z : AlX => z.2.2) c
  have e2 : (ex.map fun d => fnY K (exAd K d))[i]? = (ex.map ExD.val)[i]? := by rw [e]
  rw [List.getElem?_map, List.getElem?_map, h] at e2
  exact Option.some.inj e2
end
theorem toFun {K : PySem.W.Frag} {x q : Str} {st : Stmt} {kws : List (Str × V)} {f : Addr} {fd : FuncData} (F : FunD K x q (defArgs st) (defBody st) (defScope st) [] kws f fd) : Fun K x q st f fd := by
  obtain ⟨⟨oc, od, dV, kV, doc, pm, an, cdv, ct, osl, e, l, c, d, _⟩, k⟩ := F
  rcases d with ⟨_, e2⟩ | ⟨ne, _⟩
  · subst e2
    exact ⟨⟨oc, od, kV, doc, pm, an, cdv, ct, osl, e, l, c⟩, k⟩
  · exact absurd rfl ne
/-- a law: F gives the written part, the function object, the promise over every base; the script's bits told -/
theorem walk_ofEB {l : PySem.W.OpenLaw} {n k : Nat} {q : Program} {loose : List Str} {XP : (Str → Option Value) → Heap → Prop} {YP : World → Heap → Prop} {d : DefRec} {CX : CXT} {x : Str}
    (hn : l.most = some n) (hn2 : n ≤ sizeLine) (hdf : d.params.defaults = []) (hr : Room k callerA)
    (F : ∀ (w : World) (mg : Str → Option Value) (fa : Addr) (h : Heap), YP w h → h.Ns mainGlobals mg → mg d.name = some (.ref fa) →
      ∃ (K : PySem.W.Frag) (fd : FuncData) (sp : Sp), K.In h ∧ (∀ (s : Shared) (u : Value), BindsTo s fd ⟨[u], []⟩ [(x, u)]) ∧
        (∀ (H : Hp) (a : Addr) (ns : List Int), ns.length ≤ n → (∀ z ∈ ns, Builtin.Int.intBits z ≤ 1048576) → Only H → SqL K H a (ns.map V.int) → sp [.ref a] H (fun v _ => v = .bl true) fun _ _ _ => False) ∧
        ∀ base : Heap, K.In base → base.Ns mainGlobals mg → FnOk l.prog w K mg base CX k fa fd [x] sp)
    (hCX : ∀ (H : Hp) (s : Shared) (e : Value) (s' : Shared), CX [] H s (fun _ _ _ => False) e s' → False) :
    PySem.W.WalkO q loose XP YP l.row.toRowW d [] (fun f vs => PySem.call f vs) := by
  refine Att.attach_callB hn hdf fun w s₀ s₁ mg mb fa o pm cd doc a vs ns G Y ho hd hcd hmg hobj hints hlen hbits hg => ?_
  obtain ⟨K, fd, sp, KX, hb, hsp, hF⟩ := F w mg fa _ Y G.T.g hmg
  exact law_call KX G.T.g G.T.b G.T.builtins G.T.nolimit hg hobj hints (Nat.le_trans hlen hn2) hr hF hb (fun H hO hS => hsp H a ns hlen hbits hO hS) fun H e s' => hCX H s₁ e s'
end Hd

namespace DL
open PySem L2
/-! ### equality of data whose depth is not known -/
def shD : Nat → Dt → Bool
  | _, .non => true
  | _, .bl _ => true
  | _, .int _ => true
  | _, .str s => PyData.canLay0 (.str s)
  | n + 1, .tup xs => xs.all (shD n)
  | n + 1, .lst xs => xs.all (shD n)
  | _, _ => false
theorem shs_all {n : Nat} (k : ∀ d, shD n d = true → SH n d) : ∀ {xs : List Dt}, xs.all (shD n) = true → SHs n xs
  | [], _ => .nil
  | x :: xs, h => by
    rw [List.all_cons, Bool.and_eq_true] at h
    exact .cons (k x h.1) (shs_all k h.2)
theorem shD_ok : ∀ {n : Nat} {d : Dt}, shD n d = true → SH n d
  | 0, .non, _ => .non
  | 0, .bl _, _ => .bl
  | 0, .int _, _ => .int
  | 0, .str _, h => .str (by unfold shD at h; exact h)
  | 0, .ty _, h => by unfold shD at h; cases h
  | 0, .tup _, h => by unfold shD at h; cases h
  | 0, .lst _, h => by unfold shD at h; cases h
  | 0, .obj _ _, h => by unfold shD at h; cases h
  | 0, .dic _ _, h => by unfold shD at h; cases h
  | n + 1, .non, _ => .non
  | n + 1, .bl _, _ => .bl
  | n + 1, .int _, _ => .int
  | n + 1, .str _, h => .str (by unfold shD at h; exact h)
  | n + 1, .ty _, h => by unfold shD at h; cases h
  | n + 1, .tup xs, h => .tup (shs_all (fun d k => shD_ok k) (by unfold shD at h; exact h))
  | n + 1, .lst xs, h => .lst (shs_all (fun d k => shD_ok k) (by unfold shD at h; exact h))
  | n + 1, .obj _ _, h => by unfold shD at h; cases h
  | n + 1, .dic _ _, h => by unfold shD at h; cases h
def eqDC (a b : Dt) : Option Bool := if (shD 64 a && shD 64 b) = true then some (eqD a b) else none
section
variable {K : PySem.W.Frag} {es : List Sl} {ta tb : TE} {a b : Dt} {z : Bool}
theorem eqDC_of (h : eqDC a b = some z) : (SH 64 a ∧ SH 64 b) ∧ eqD a b = z := by
  obtain ⟨h1, h2⟩ := ite_some h
  rw [Bool.and_eq_true] at h1
  exact ⟨⟨shD_ok h1.1, shD_ok h1.2⟩, h2⟩
theorem ev_eqDC (ha : Ev K ta es a) (hb : Ev K tb es b) (h : eqDC a b = some z) : Ev K (tOp (rEqD K) ta tb) es (.bl z) := by
  obtain ⟨⟨s1, s2⟩, e⟩ := eqDC_of h
  exact ev_is (ev_eqD s1 s2 ha hb) (congrArg Dt.bl e)
theorem ev_neDC (ha : Ev K ta es a) (hb : Ev K tb es b) (h : eqDC a b = some z) : Ev K (tOp (rNeD K) ta tb) es (.bl (!z)) := by
  obtain ⟨⟨s1, s2⟩, e⟩ := eqDC_of h
  exact ev_is (ev_neD s1 s2 ha hb) (congrArg (fun q => Dt.bl (!q)) e)
end
/-! ### a text in a list or tuple of texts -/
theorem strs_of {K : PySem.W.Frag} {G : Hp} : ∀ {vs : List V} {ns : List Str}, Reps K G vs (ns.map Dt.str) → vs = ns.map V.str
  | [], [], _ => rfl
  | v :: vs, n :: ns, .cons h r => by
    cases h
    rw [strs_of r]
    rfl
theorem inV_str {i : Str} : ∀ {xs : List Str}, inV (.str i) (xs.map V.str) = decide (i ∈ xs)
  | [] => rfl
  | x :: xs => by
    have ih := inV_str (i := i) (xs := xs)
    unfold inV at ih ⊢
    rw [List.map_cons, List.any_cons, ih]
    show (x == i || decide (i ∈ xs)) = decide (i ∈ x :: xs)
    rw [Bool.eq_iff_iff, Bool.or_eq_true, beq_iff_eq, decide_eq_true_eq, decide_eq_true_eq, List.mem_cons]
    exact ⟨fun h => h.imp Eq.symm (fun x => x), fun h => h.imp Eq.symm (fun x => x)⟩
theorem all_str {xs : List Str} : (xs.map V.str).all flatV = true := by
  rw [List.all_eq_true]
  intro x hx
  obtain ⟨y, _, rfl⟩ := List.mem_map.mp hx
  rfl
section
variable {K : PySem.W.Frag} {es : List Sl} {ta tb : TE}
theorem ev_inLS {i : Str} {xs : List Str} (ha : Ev K ta es (.str i)) (hb : Ev K tb es (.lst (xs.map Dt.str))) : Ev K (tOp (rIn K false) ta tb) es (.bl (decide (i ∈ xs))) := ev_op ha hb fun F G H σ es x y s rx ry Q q => by
  cases rx
  cases ry with
  | lst h r =>
    obtain rfl := strs_of r
    refine ⟨_, _, rfl, .inl (s.g.seq h), rfl, all_str, ?_⟩
    show Q (.bl (inV (.str i) (xs.map V.str))) H
    rw [inV_str]
    exact q _ G H s (Same.refl _) (.bl _)
theorem ev_ninLS {i : Str} {xs : List Str} (ha : Ev K ta es (.str i)) (hb : Ev K tb es (.lst (xs.map Dt.str))) : Ev K (tOp (rIn K true) ta tb) es (.bl (!decide (i ∈ xs))) := ev_op ha hb fun F G H σ es x y s rx ry Q q => by
  cases rx
  cases ry with
  | lst h r =>
    obtain rfl := strs_of r
    refine ⟨_, _, rfl, .inl (s.g.seq h), rfl, all_str, ?_⟩
    show Q (.bl (!inV (.str i) (xs.map V.str))) H
    rw [inV_str]
    exact q _ G H s (Same.refl _) (.bl _)
theorem ev_inTS {i : Str} {xs : List Str} (ha : Ev K ta es (.str i)) (hb : Ev K tb es (.tup (xs.map Dt.str))) : Ev K (tOp (rIn K false) ta tb) es (.bl (decide (i ∈ xs))) := ev_op ha hb fun F G H σ es x y s rx ry Q q => by
  cases rx
  cases ry with
  | tup h r =>
    obtain rfl := strs_of r
    refine ⟨_, _, rfl, .inr (sqT_mono s.g h), rfl, all_str, ?_⟩
    show Q (.bl (inV (.str i) (xs.map V.str))) H
    rw [inV_str]
    exact q _ G H s (Same.refl _) (.bl _)
theorem ev_ninTS {i : Str} {xs : List Str} (ha : Ev K ta es (.str i)) (hb : Ev K tb es (.tup (xs.map Dt.str))) : Ev K (tOp (rIn K true) ta tb) es (.bl (!decide (i ∈ xs))) := ev_op ha hb fun F G H σ es x y s rx ry Q q => by
  cases rx
  cases ry with
  | tup h r =>
    obtain rfl := strs_of r
    refine ⟨_, _, rfl, .inr (sqT_mono s.g h), rfl, all_str, ?_⟩
    show Q (.bl (!inV (.str i) (xs.map V.str))) H
    rw [inV_str]
    exact q _ G H s (Same.refl _) (.bl _)
end
/-- a test that is never reached -/
def tNevT : TT := fun _ _ _ => False
theorem pt_nev {X : Cx} {e : Expr} : PT X e tNevT := ⟨fun _ _ _ _ _ _ h => h.elim⟩
/-! what is of the one kind of two -/
theorem ev_unl {K : PySem.W.Frag} {es : List Sl} {te : TE} {α β : Type} {e1 : α → Dt} {e2 : β → Dt} {u : α ⊕ β} {x : α} (h : Sum.getLeft? u = some x) (p : Ev K te es (dS e1 e2 u)) : Ev K te es (e1 x) := by
  cases u with
  | inl a => cases h; exact p
  | inr b => cases h
theorem ev_unr {K : PySem.W.Frag} {es : List Sl} {te : TE} {α β : Type} {e1 : α → Dt} {e2 : β → Dt} {u : α ⊕ β} {x : β} (h : Sum.getRight? u = some x) (p : Ev K te es (dS e1 e2 u)) : Ev K te es (e2 x) := by
  cases u with
  | inl a => cases h
  | inr b => cases h; exact p
end DL

/-! Dl16: a new object that the def that made it still writes to -/
namespace DL
open PySem L2
section
variable {K : PySem.W.Frag} {F G H F' G' H' : Hp} {σ σ' : L2.St} {es es' : List Sl} {p : Addr}
theorem Stt.takeO {C : Addr} {dx : Addr} {vs : List (Str × V)} {fs : List (Str × Dt)} {i : Nat} (s : Stt K (upd F p (.ins C dx vs)) G H σ es) (hF : F p = none) (r : RepF K G vs fs) : Stt K F G H (σ.set i (some (.ref p))) (es.set i (.obo none C fs)) := by
  have gp : G p = none := s.dj p _ upd_same
  have hp : H p = some (.ins C dx vs) := s.f p _ upd_same
  have up : ∀ {q : Addr} {u : HO}, F q = some u → upd F p (.ins C dx vs) q = some u := fun {q u} e => by rw [upd_ne (ne_of_none e hF)]; exact e
  refine ⟨fun a u e => s.f a u (up e), s.g, fun a u e => s.dj a u (up e), by rw [List.length_set, List.length_set]; exact s.len, fun j t e => ?_, fun a b t u ne ea eb ha hb => ?_⟩
  · by_cases q : i = j
    · subst q
      have hj : i < es.length := by
        have := (List.getElem?_eq_some_iff.mp e).1
        rwa [List.length_set] at this
      rw [List.getElem?_set_self hj] at e
      cases e
      exact ⟨_, List.getElem?_set_self (by rw [s.len]; exact hj), p, dx, vs, rfl, gp, hF, hp, r, fun q e => nomatch e⟩
    · rw [List.getElem?_set_ne q] at e
      rw [List.getElem?_set_ne q]
      obtain ⟨x, hx, k⟩ := s.sl j t e
      exact ⟨x, hx, k.grow (Same.refl _) (fun q u _ _ e => e) fun q g _ f => ⟨g, (upd_none f).2⟩⟩
  · have other : ∀ j z, i ≠ j → (es.set i (.obo none C fs))[j]? = some z → z.isOwn = true → σ[j]? ≠ some (some (.ref p)) := fun j z nj ej hz q => by
      rw [List.getElem?_set_ne nj] at ej
      obtain ⟨x, hx, k⟩ := s.sl j z ej
      rw [hx] at q
      cases q
      cases z with
      | un => cases hz
      | d x => cases hz
      | own a xs =>
        obtain ⟨p', vs', e, _, f, _⟩ := k
        cases e
        rw [upd_same] at f
        cases f
      | obo a C' fs' =>
        obtain ⟨p', dx', vs', e, _, f, _⟩ := k
        cases e
        rw [upd_same] at f
        cases f
    by_cases na : i = a
    · subst na
      have hj : i < es.length := by
        have := (List.getElem?_eq_some_iff.mp ea).1
        rwa [List.length_set] at this
      rw [List.getElem?_set_self (by rw [s.len]; exact hj), List.getElem?_set_ne ne]
      exact fun q => other b u ne eb hb q.symm
    · by_cases nb : i = b
      · subst nb
        have hj : i < es.length := by
          have := (List.getElem?_eq_some_iff.mp eb).1
          rwa [List.length_set] at this
        rw [List.getElem?_set_self (by rw [s.len]; exact hj), List.getElem?_set_ne na]
        exact other a t na ea ha
      · rw [List.getElem?_set_ne na] at ea ⊢
        rw [List.getElem?_set_ne nb] at eb ⊢
        exact s.ow a b t u ne ea eb ha hb
/-- an object that is made, and is its maker's -/
def EvOb (K : PySem.W.Frag) (te : TE) (es : List Sl) (C : Addr) (fs : List (Str × Dt)) : Prop := ∀ F G H σ, Stt K F G H σ es → ∀ Q : VK, (∀ p dx vs G' H', Stt K (upd F p (.ins C dx vs)) G' H' σ es → F p = none → Same G G' → RepF K G' vs fs → Q (.ref p) H') → te σ H Q
variable {ta : TA} {ds dds : List Dt} {E : XK} {dvs : List V}
theorem ob_makeD {P : List Dt → List (Str × Dt) → Prop} {C : Addr} {fs : List (Str × Dt)} (ha : EvA K ta es ds) (hd : ∀ G, Reps K G dvs dds) (hP : P (ds ++ dds) fs) : EvOb K (tMake C (FSpec K (RI C P)) dvs E ta) es C fs := fun F G H σ s Q q =>
  ha F G H σ s _ fun vs G1 H1 s1 g1 r1 x dx hx hdx ne => by
    have hx1 : upd H1 dx (.own x) x = none := by
      rw [upd_ne (fun z => ne z.symm)]
      exact hx
    have s2 : Stt K F G1 (upd (upd H1 dx (.own x)) x (.ins C dx [])) σ es := (s1.lay hdx).lay hx1
    have gx : G1 x = none := s1.gnone hx
    have rx : ∀ a o, a ≠ x → rem G1 (upd (upd H1 dx (.own x)) x (.ins C dx [])) a = some o → rem G1 (upd (upd H1 dx (.own x)) x (.ins C dx [])) a = some o := fun _ _ _ e => e
    -- what is another's: all but the known and the new one
    refine ⟨fun a => if a = x then none else rem G1 (upd (upd H1 dx (.own x)) x (.ins C dx [])) a, G1, .obo (some x) C [] :: (ds ++ dds).map .d, .non, .obo (some x) C fs :: (ds ++ dds).map .d, ?_, ⟨x, _, fs, rfl, rfl, rfl, hP⟩, ?_⟩
    · have base : Stt K (fun a => if a = x then none else rem G1 (upd (upd H1 dx (.own x)) x (.ins C dx [])) a) G1 (upd (upd H1 dx (.own x)) x (.ins C dx [])) ((vs ++ dvs).map some) ((ds ++ dds).map .d) := by
        refine stt_data (fun a o e => ?_) s2.g (fun a o e => ?_) (r1.append (hd G1))
        · by_cases q : a = x
          · rw [if_pos q] at e; cases e
          · rw [if_neg q] at e; exact (rem_some e).1
        · by_cases q : a = x
          · rw [if_pos q] at e; cases e
          · rw [if_neg q] at e; exact (rem_some e).2
      refine ⟨base.f, base.g, base.dj, by rw [List.map_cons, List.length_cons, List.length_cons, base.len], fun i t e => ?_, fun i j t u nij ei ej hi hj => ?_⟩
      · cases i with
        | zero =>
          cases e
          exact ⟨_, rfl, x, dx, [], rfl, gx, if_pos rfl, upd_same, .nil, fun q e => (Option.some.inj e).symm⟩
        | succ i => exact base.sl i t e
      · cases i with
        | zero =>
          cases j with
          | zero => exact absurd rfl nij
          | succ j =>
            have ej' : ((ds ++ dds).map Sl.d)[j]? = some u := ej
            rw [List.getElem?_map] at ej'
            cases q : (ds ++ dds)[j]? with
            | none => rw [q] at ej'; cases ej'
            | some d => rw [q] at ej'; cases ej'; cases hj
        | succ i =>
          have ei' : ((ds ++ dds).map Sl.d)[i]? = some t := ei
          rw [List.getElem?_map] at ei'
          cases q : (ds ++ dds)[i]? with
          | none => rw [q] at ei'; cases ei'
          | some d => rw [q] at ei'; cases ei'; cases hi
    · intro v G2 H2 s3 g3 r3
      cases r3
      obtain ⟨o, ho, p, dx', fv, eo, gp, fp, hp, rf, an⟩ := s3.sl 0 _ rfl
      cases ho
      cases eo
      refine ⟨rfl, ?_⟩
      have keep : ∀ a o, H1 a = some o → G1 a = none → H2 a = some o ∧ G2 a = none := fun a o e g => by
        have ax : a ≠ x := fun z => by subst z; rw [hx] at e; cases e
        have adx : a ≠ dx := fun z => by subst z; rw [hdx] at e; cases e
        have fa : (if a = x then none else rem G1 (upd (upd H1 dx (.own x)) x (.ins C dx [])) a) = some o := by
          rw [if_neg ax, rem_of g, upd_ne ax, upd_ne adx]
          exact e
        exact ⟨s3.f a o fa, s3.dj a o fa⟩
      have nex : ∀ a o, H1 a = some o → a ≠ x := fun a o e z => by subst z; rw [hx] at e; cases e
      have fx : F x = none := by
        cases q : F x with
        | none => rfl
        | some o => exact absurd rfl (nex x o (s1.f x o q))
      have s4 : Stt K (upd F x (.ins C dx' fv)) G2 H2 σ es :=
        { f := fun a o e => by
            by_cases q : a = x
            · subst q
              rw [upd_same] at e
              cases e
              exact hp
            · rw [upd_ne q] at e
              exact (keep a o (s1.f a o e) (s1.dj a o e)).1
          g := s3.g
          dj := fun a o e => by
            by_cases q : a = x
            · subst q
              exact gp
            · rw [upd_ne q] at e
              exact (keep a o (s1.f a o e) (s1.dj a o e)).2
          len := s1.len
          sl := fun i t e => by
            obtain ⟨y, hy, k⟩ := s1.sl i t e
            exact ⟨y, hy, k.grow g3 (fun q u hg _ e => (keep q u e hg).1) fun q hg ⟨u, hu⟩ hf => ⟨(keep q u hu hg).2, by rw [upd_ne (nex q u hu)]; exact hf⟩⟩
          ow := s1.ow }
      exact q x dx' fv G2 H2 s4 fx (g1.trans g3) rf
theorem ob_make {P : List Dt → List (Str × Dt) → Prop} {C : Addr} {fs : List (Str × Dt)} (ha : EvA K ta es ds) (hP : P ds fs) : EvOb K (tMake C (FSpec K (RI C P)) [] E ta) es C fs := ob_makeD (dds := []) ha (fun _ => .nil) (by rw [List.append_nil]; exact hP)
theorem sm_ownO {ρ : Type} {te : TE} {tz : TS} {m : Option ρ} {oc : ρ → Res} {i : Nat} {C : Addr} {fs : List (Str × Dt)} (h : EvOb K te es C fs) (he : es.set i (.obo none C fs) = es') (k : SM K tz es' m oc) : SM K (tSeq (tAsg te (gName i)) tz) es m oc := fun r e F G H σ D s q =>
  h F G H σ s _ fun p dx vs G1 H1 s1 hF g1 r1 => k r e F G1 H1 _ D (he ▸ s1.takeO hF r1) (q.up g1)
end
theorem dS_non {α β : Type} {e1 : α → Dt} {e2 : β → Dt} (h1 : ∀ x, e1 x = .non → False) (h2 : ∀ x, e2 x = .non → False) : ∀ u, dS e1 e2 u = .non → False := fun u => by
  cases u with
  | inl x => exact h1 x
  | inr x => exact h2 x
end DL

/-! Dl17: a call that raises inside an expression -/
namespace DL
open PySem L2
section
variable {K : PySem.W.Frag} {es : List Sl} {c : Addr} {f n : Str} {tc : (L2.St → XK) → TE} {tb : TE} {r : R2}
theorem xv_fld (h : XvE K tc es c f) : XvE K (fun E => tFld K (tc E) n) es c f := fun F G H σ s Q E q => h F G H σ s _ E q
theorem xv_opL (h : XvE K tc es c f) : XvE K (fun E => tOp r (tc E) tb) es c f := fun F G H σ s Q E q => h F G H σ s _ E q
/-- a test that raises -/
def XvT (K : PySem.W.Frag) (tt : (L2.St → XK) → TT) (es : List Sl) (c : Addr) (f : Str) : Prop := ∀ F G H σ, Stt K F G H σ es → ∀ (Q : Bool → Hp → Prop) (E : L2.St → XK),
  (∀ dd G' H', Stt K F G' H' σ es → Same G G' → H' dd = some (xdF f) → F dd = none → G' dd = none → E σ (.ref c) (some dd) H') → tt E σ H Q
theorem xt_B (h : XvE K tc es c f) : XvT K (fun E => tB (tc E)) es c f := fun F G H σ s Q E q => h F G H σ s _ E q
theorem xt_not {tt : (L2.St → XK) → TT} (h : XvT K tt es c f) : XvT K (fun E => tNot (tt E)) es c f := fun F G H σ s Q E q => h F G H σ s _ E q
theorem smx_retX {E : XK} {E' : L2.St → XK} {tz : TS} {x : Option Str} (hE : E' = fun _ => E) (hx : ∀ f, x = some f → XvE K tc es c f) : SMX K (tSeq (tRet (tc E')) tz) E es c x := fun f e F G H σ D s q => by
  subst hE
  exact hx f e F G H σ s _ (fun _ => E) fun dd G' H' s' g' h1 f1 n1 => q dd G' H' s'.f s'.g s'.dj g' h1 f1 n1
theorem smx_ifX {E : XK} {E' : L2.St → XK} {tt : (L2.St → XK) → TT} {t u tz : TS} {x : Option Str} (hE : E' = fun _ => E) (hx : ∀ f, x = some f → XvT K tt es c f) : SMX K (tSeq (tIfS (tt E') t u) tz) E es c x := fun f e F G H σ D s q => by
  subst hE
  exact hx f e F G H σ s _ (fun _ => E) fun dd G' H' s' g' h1 f1 n1 => q dd G' H' s'.f s'.g s'.dj g' h1 f1 n1
end
end DL

/-! Dl18: tries with several named handlers and bodies of any shape; loops and arguments that raise -/
namespace L2
open PySem PySem.Spec PyProof.Rows
abbrev Hnd := Value × Nat × (Addr → Value → Option Addr → TS)
/-- the ends of a suite whose name in slot i goes -/
def uset (D : Ends) (i : Nat) : Ends := { nx := fun τ G => D.nx (τ.set i none) G, rt := D.rt, bk := fun τ G => D.bk (τ.set i none) G, ct := fun τ G => D.ct (τ.set i none) G }
/-- the wishes of named clauses, in turn; nothing may get through -/
def wN (K : PySem.W.Frag) (D : Ends) : List Hnd → WX
  | [] => fun _ _ _ _ => False
  | (c, i, ts) :: r => fun cls d σ H => ∃ b, PySem.W.exmOne K cls c = some b ∧ (b = true → ∀ a, H a = none → ts a cls d (uset D i) (σ.set i (some (.ref a))) H) ∧ (b = false → wN K D r cls d σ H)
inductive HdN (X : Cx) : List ExceptHandler → List Hnd → Prop
  | nil : HdN X [] []
  | cons {x n : Str} {c : Value} {i : Nat} {ts : Addr → Value → Option Addr → TS} {b₀ : Stmt} {suite : List Stmt} {np q : Pos} {hds : List ExceptHandler} {l : List Hnd} (hi : X.N[i]? = some n) (hln : X.env.kindOf n = some .local) (hc : Names X x c)
      (hsu : ∀ (a : Addr) (oe : Obj) (cls : Value) (d : Option Addr) (pn : List (Addr × Obj)), Zc cls d oe → (∃ vs, oe.data = .fields vs) → PSs (X.suite a ((a, oe) :: pn)) (b₀ :: suite) (ts a cls d)) (r : HdN X hds l) :
      HdN X (.ExceptHandler (some (.Name x np)) (some n) (b₀ :: suite) q :: hds) ((c, i, ts) :: l)
section
variable {X : Cx} {pins : List (Addr × Obj)} {D : Ends} {a : Addr} {B h3 : Heap} {sI s' : Shared} {τ : St} {G : Hp} {cls : Value} {d : Option Addr}
/-- the exception is no frame's -/
theorem no_frame {h : Heap} {o : Obj} {vs : Array Value} (ff : h.FunFrames B (X.env :: X.outer)) (e : h.get? a = some o) (dd : o.data = .fields vs) : a ∉ frs (X.env :: X.outer) := by
  intro hm
  obtain ⟨_, o2, e2, no⟩ := ff.mem hm
  rw [e] at e2
  cases e2
  exact no _ dd
theorem catchN (ok : X.Ok) (hf : X.env.frame = some X.env.locals) (hN : X.N.Nodup) (J : Inv X pins τ G sI) (nb : ∀ b o, sI.heap.get? b = some o → b ∉ frs X.stack → B.get? b = some o) (up : sI.heap.UpToSlots h3)
    (fl : HandSPX.FlyingZ B (X.env :: X.outer) a (Zc cls d) h3) (na : G a = none) (os : s'.os = sI.os) (ag : AllBare s'.gens) :
    ∀ {hds : List ExceptHandler} {l : List Hnd}, HdN X hds l → wN X.K D l cls d τ G → wpAny (model X.prog X.w) X.A (handleBy (.ref a) X.env hds) (SP X pins D) X.xe { s' with heap := h3 } := by
  intro hds l hk
  induction hk with
  | nil => exact fun w => False.elim w
  | @cons x n c i ts b₀ suite np q hds2 l2 hi hln hc hsu r ih =>
    rintro ⟨b, hb1, yes, no⟩
    have J3 : Inv X pins τ G { s' with heap := h3 } := J.landed nb fl.1 up os ag
    obtain ⟨oe, vs, he, hz, hd⟩ := fl.there
    have nfr := no_frame fl.2.2.1 he hd
    have nL : a ≠ X.env.locals := fun z => nfr (List.mem_filterMap.mpr ⟨X.env, List.mem_cons_self, by rw [hf, z]⟩)
    have nF : a ∉ X.fs := by
      intro hm
      obtain ⟨e, m, q⟩ := List.mem_filterMap.mp hm
      exact nfr (List.mem_filterMap.mpr ⟨e, List.mem_cons_of_mem _ m, q⟩)
    have S3 := J3.suite he hd na nL nF
    have see : PySem.W.Looks (model X.prog X.w) h3 (typeOf (.ref a)) cls := fun A Q E s k q => wpAny_typeOf_ref (k _ _ he) (by rw [hz.1]; exact q)
    have asks := PySem.W.exm_one (M := model X.prog X.w) J3.kIn see hb1
    have name : ∀ {Q E : Value → Shared → Prop}, Q c { s' with heap := h3 } → wpAny (model X.prog X.w) (X.A.mark (some (.ref a))) (eval (.Name x np) X.env) Q E { s' with heap := h3 } := by
      intro Q E q
      rcases hc with ⟨g1, g2, g3 | ⟨g3, g4, g5⟩⟩
      · exact ld_glob (X := X.suite a ((a, oe) :: (X.pn ++ pins))) S3 g1 g3 q g2
      · exact ld_blt (X := X.suite a ((a, oe) :: (X.pn ++ pins))) S3 g1 g3 g4 q g5 g2
    refine wpAny_handleBy_cons (codeAny_handlers_test (name (asks.here ?_))) (by intro z; cases z)
    cases b with
    | false => exact ih (no rfl)
    | true =>
      refine codeAny_handlers_suite_as (HandSPX.lands_againZ fl fun h4 fl4 up4 => ?_)
      have J4 : Inv X pins τ G { s' with heap := h4 } := J.landed nb fl4.1 (up.trans up4) os ag
      obtain ⟨oe4, vs4, he4, hz4, hd4⟩ := fl4.there
      have S4 := J4.suite he4 hd4 na nL nF
      refine store_ok (X := X.suite a ((a, oe4) :: (X.pn ++ pins))) (v := .ref a) S4 hN hi (.inl hln) rfl (fun s5 S5 => ?_) (.inr hln)
      have go := (hsu a oe4 cls d (X.pn ++ pins) hz4 ⟨_, hd4⟩).run [] s5 _ G _ S5 (yes rfl a na)
      refine wpAny_mono go (fun f s6 sp => ?_) (fun _ _ z => False.elim z)
      cases f with
      | next => obtain ⟨τ6, G6, S6, q6⟩ := sp; exact gone_ok (S6.unsuite ok) hN hi hln fun _ J7 => ⟨_, _, J7, q6⟩
      | brk => obtain ⟨τ6, G6, S6, q6⟩ := sp; exact gone_ok (S6.unsuite ok) hN hi hln fun _ J7 => ⟨_, _, J7, q6⟩
      | cont => obtain ⟨τ6, G6, S6, q6⟩ := sp; exact gone_ok (S6.unsuite ok) hN hi hln fun _ J7 => ⟨_, _, J7, q6⟩
      | ret u => obtain ⟨v6, τ6, G6, S6, r6, q6⟩ := sp; exact gone_ok (S6.unsuite ok) hN hi hln fun _ J7 => ⟨_, _, _, J7, r6, q6⟩
end
section
variable {X : Cx} {body : List Stmt} {h₀ : ExceptHandler} {hds : List ExceptHandler} {l : List Hnd} {pos : Pos} {tb : WX → TS}
/-- try: body / except C1 as e: .. / except C2 as e: .. -/
theorem ps_tryN (hs : X.stack = X.env :: X.outer) (hf : X.env.frame = some X.env.locals) (hN : X.N.Nodup)
    (hb : ∀ (W : WX) (pn : List (Addr × Obj)) (xe : Value → Shared → Prop), Takes (X.tr pn xe) W → PassesOwn (model X.prog X.w) X.A X.env xe → PSs (X.tr pn xe) body (tb W)) (hh : HdN X (h₀ :: hds) l) :
    PS X (.Try body (h₀ :: hds) [] [] pos) (fun D σ H => tb (wN X.K D l) D σ H) := by
  refine ⟨fun pins s σ H D I h => wpAny_Try_except ?_⟩
  have ok := I.ok
  let E1 : Value → Shared → Prop := fun e s₁ => wpAny (model X.prog X.w) X.A (noteFrame e X.env) (fun _ s₂ => wpAny (model X.prog X.w) X.A (setFlight e none) (fun _ s₃ => wpAny (model X.prog X.w) X.A (handleBy e X.env (h₀ :: hds)) (SP X pins D) X.xe s₃) X.xe s₂) X.xe s₁
  have tk : Takes (X.tr (X.pn ++ pins) E1) (wN X.K D l) := by
    rintro u s' ⟨a, B, sI, pins', τ, G, cls, d, rfl, J', nb, up, sky, na, os, ag, w⟩
    have sk : Sky B (X.env :: X.outer) a (Zc cls d) X.env.locals s'.heap := by rw [← hs]; exact sky
    show wpAny (model X.prog X.w) X.A (noteFrame (.ref a) X.env) _ _ _
    exact Sky.land Zc.steady (show X.A.frames = some (X.env :: X.outer) by rw [ok.frames, hs]) hf sk fun h3 fl up3 => catchN ok hf hN (J'.ofTry ok) nb (up.trans up3) fl na os ag hh w
  refine wpAny_mono ((hb _ (X.pn ++ pins) E1 tk PassesOwn.looking).run [] s σ H D (I.toTry _) h) (fun f s1 sp => ?_) (fun e s1 he => he)
  cases f with
  | next => obtain ⟨τ, G, J, q⟩ := sp; exact wpAny_execs_nil ⟨τ, G, J.ofTry ok, q⟩
  | brk => obtain ⟨τ, G, J, q⟩ := sp; exact ⟨τ, G, J.ofTry ok, q⟩
  | cont => obtain ⟨τ, G, J, q⟩ := sp; exact ⟨τ, G, J.ofTry ok, q⟩
  | ret u => obtain ⟨v, τ, G, J, r, q⟩ := sp; exact ⟨v, τ, G, J.ofTry ok, r, q⟩
end
section
variable {X : Cx} {C fI D1 : Addr} {nm : Str} {p p2 p3 p4 : Pos} {s0 : Str} {kk : Nat} {eo : Expr} {i : Nat}
/-- return '..' + e.field -/
theorem ph_retCat (T : PySem.DLX.ExcT X.prog X.K X.mg nm C fI) (he : ∀ a pn, PE (X.suite a pn) eo (tVar i)) (hb : attributeBase eo "field" X.env (eval eo X.env) = eval eo X.env := by rfl) :
    PHand X [.Return (some (.BinOp (.Constant (.str s0) kk p4) .Add (.Attribute eo "field" p) p3)) p2] (fun a cls d => tSeq (tRet (tOp rAddS (tC (.str s0)) (tXf a cls d C "field" (tVar i)))) tNext) := fun a oe cls d pn hz hf =>
  pss_cons (ps_ret (pe_op op_add_str pe_str (pe_xf (xfC_of T) T.noN hz hf (he _ _) hb))) pss_nil
end
end L2
namespace DL
open PySem L2
section
variable {K : PySem.W.Frag} {es eh : List Sl} {c : Addr} {f : Str} {E : L2.St → XK} {t u tz : TS} {m p q : Option Str} {te : TE} {d : Dt} {tt : TT} {tc : (L2.St → XK) → TE}
/-! ### what raises within a try -/
def GoodY (K : PySem.W.Frag) (F G : Hp) (E : L2.St → XK) (eh : List Sl) (c : Addr) (f : Str) : Prop := ∀ dd G' H' σ', Stt K F G' H' σ' eh → Same G G' → H' dd = some (xdF f) → F dd = none → G' dd = none → E σ' (.ref c) (some dd) H'
theorem GoodY.up {F G G1 : Hp} (h : GoodY K F G E eh c f) (g : Same G G1) : GoodY K F G1 E eh c f := fun dd G' H' σ' s e => h dd G' H' σ' s (g.trans e)
def SMY (K : PySem.W.Frag) (t : TS) (E : L2.St → XK) (es eh : List Sl) (c : Addr) (m : Option Str) : Prop := ∀ f, m = some f → ∀ F G H σ D, Stt K F G H σ es → GoodY K F G E eh c f → t D σ H
theorem smy_none : SMY K t E es eh c none := fun f e => by cases e
theorem smy_bind {α : Type} {m1 : Option α} {f : α → Option Str} (h : ∀ x, m1 = some x → SMY K t E es eh c (f x)) : SMY K t E es eh c (m1.bind f) := fun r e => by
  cases q : m1 with
  | none => rw [q] at e; cases e
  | some x =>
    rw [q] at e
    exact h x q r e
theorem smy_lt {α : Type} {e : α} {f : α → Option Str} (h : ∀ x, e = x → SMY K t E es eh c (f x)) : SMY K t E es eh c (lt e f) := h e rfl
theorem smy_one (h : SMY K (tSeq t tNext) E es eh c m) : SMY K t E es eh c m := h
theorem smy_as {v : TS} (h : SMY K (tSeq t (tSeq u v)) E es eh c m) : SMY K (tSeq (tSeq t u) v) E es eh c m := h
theorem smy_nil (h : SMY K tz E es eh c m) : SMY K (tSeq tNext tz) E es eh c m := h
theorem smy_asg {i : Nat} (h : Ev K te es d) (k : SMY K tz E (es.set i (.d d)) eh c m) : SMY K (tSeq (tAsg te (gName i)) tz) E es eh c m := fun r e F G H σ D s q =>
  h F G H σ s _ fun v G1 H1 s1 g1 r1 => k r e F G1 H1 _ D (s1.set r1) (q.up g1)
theorem smy_drop (h : Ev K te es d) (k : SMY K tz E es eh c m) : SMY K (tSeq (tDrop te) tz) E es eh c m := fun r e F G H σ D s q =>
  h F G H σ s _ fun v G1 H1 s1 g1 r1 => k r e F G1 H1 _ D s1 (q.up g1)
theorem smy_if {b : Bool} (h : EvT K tt es b) (h1 : b = true → SMY K (tSeq t tz) E es eh c p) (h2 : b = false → SMY K (tSeq u tz) E es eh c q) : SMY K (tSeq (tIfS tt t u) tz) E es eh c (if b = true then p else q) := fun r e F G H σ D s k =>
  h F G H σ s _ fun G1 H1 s1 g1 => by
    cases b with
    | true =>
      show t _ σ H1
      exact h1 rfl r e F G1 H1 σ D s1 (k.up g1)
    | false =>
      show u _ σ H1
      exact h2 rfl r e F G1 H1 σ D s1 (k.up g1)
/-- x = call, where the call may raise -/
theorem smy_callA {i : Nat} {x : Option Str} (w : Wk es eh) (hx : ∀ f, x = some f → XvE K tc es c f) (hn : x = none → SMY K (tSeq (tAsg (tc E) (gName i)) tz) E es eh c m) : SMY K (tSeq (tAsg (tc E) (gName i)) tz) E es eh c (tryX x some m) := fun r e F G H σ D s q => by
  cases x with
  | none => exact hn rfl r e F G H σ D s q
  | some g =>
    have e : some g = some r := e
    cases e
    exact hx _ rfl F G H σ s _ E fun dd G' H' s' g' h1 f1 n1 => q dd G' H' σ (s'.wk w) g' h1 f1 n1
theorem smy_callS {x : Option Str} (w : Wk es eh) (hx : ∀ f, x = some f → XvE K tc es c f) (hn : x = none → SMY K (tSeq (tDrop (tc E)) tz) E es eh c m) : SMY K (tSeq (tDrop (tc E)) tz) E es eh c (tryX x some m) := fun r e F G H σ D s q => by
  cases x with
  | none => exact hn rfl r e F G H σ D s q
  | some g =>
    have e : some g = some r := e
    cases e
    exact hx _ rfl F G H σ s _ E fun dd G' H' s' g' h1 f1 n1 => q dd G' H' σ (s'.wk w) g' h1 f1 n1
theorem smy_retX {x : Option Str} (w : Wk es eh) (hx : ∀ f, x = some f → XvE K tc es c f) : SMY K (tSeq (tRet (tc E)) tz) E es eh c x := fun r e F G H σ D s q =>
  hx r e F G H σ s _ E fun dd G' H' s' g' h1 f1 n1 => q dd G' H' σ (s'.wk w) g' h1 f1 n1
theorem smy_es {es' : List Sl} (e : es = es') (h : SMY K t E es' eh c m) : SMY K t E es eh c m := e ▸ h
/-! ### arguments that raise -/
def XvA (K : PySem.W.Frag) (ta : (L2.St → XK) → TA) (es : List Sl) (c : Addr) (f : Str) : Prop := ∀ F G H σ, Stt K F G H σ es → ∀ (Q : List V → Hp → Prop) (E : L2.St → XK),
  (∀ dd G' H', Stt K F G' H' σ es → Same G G' → H' dd = some (xdF f) → F dd = none → G' dd = none → E σ (.ref c) (some dd) H') → ta E σ H Q
theorem xa_hd {ta : TA} (h : XvE K tc es c f) : XvA K (fun E => tCons (tc E) ta) es c f := fun F G H σ s Q E q => h F G H σ s _ E q
theorem xa_tl {tb : TE} {ta : (L2.St → XK) → TA} (hb : Ev K tb es d) (h : XvA K ta es c f) : XvA K (fun E => tCons tb (ta E)) es c f := fun F G H σ s Q E q =>
  hb F G H σ s _ fun v G1 H1 s1 g1 _ => h F G1 H1 σ s1 _ E fun dd G' H' s' g' => q dd G' H' s' (g1.trans g')
theorem xv_mkA {C : Addr} {sp : Sp} {dvs : List V} {E0 : XK} {ta : (L2.St → XK) → TA} (h : XvA K ta es c f) : XvE K (fun E => tMake C sp dvs E0 (ta E)) es c f := fun F G H σ s Q E q => h F G H σ s _ E q
theorem xv_clA {sp : Sp} {dvs : List V} {E0 : XK} {ta : (L2.St → XK) → TA} (h : XvA K ta es c f) : XvE K (fun E => tCall sp dvs E0 (ta E)) es c f := fun F G H σ s Q E q => h F G H σ s _ E q
theorem smy_set {i : Nat} {es' : List Sl} (h : Ev K te es d) (he : es.set i (.d d) = es') (k : SMY K tz E es' eh c m) : SMY K (tSeq (tAsg te (gName i)) tz) E es eh c m := smy_asg h (he ▸ k)
theorem smx_set {E : XK} {i : Nat} {es' : List Sl} (h : Ev K te es d) (he : es.set i (.d d) = es') (k : SMX K tz E es' c m) : SMX K (tSeq (tAsg te (gName i)) tz) E es c m := smx_asg h (he ▸ k)
theorem smx_own {E : XK} {i : Nat} {es' : List Sl} {ds : List Dt} (h : EvL K te es ds) (he : es.set i (.own none ds) = es') (k : SMX K tz E es' c m) : SMX K (tSeq (tAsg te (gName i)) tz) E es c m := fun r e F G H σ D s q =>
  h F G H σ s _ fun p vs G1 H1 s1 hF g1 r1 => k r e F G1 H1 _ D (he ▸ s1.take hF r1) (q.up g1)
/-- x = .., which raises -/
theorem smx_asgX {E : XK} {E' : L2.St → XK} {g : TG} {x : Option Str} (hE : E' = fun _ => E) (hx : ∀ f, x = some f → XvE K tc es c f) : SMX K (tSeq (tAsg (tc E') g) tz) E es c x := fun f e F G H σ D s q => by
  subst hE
  exact hx f e F G H σ s _ (fun _ => E) fun dd G' H' s' g' h1 f1 n1 => q dd G' H' s'.f s'.g s'.dj g' h1 f1 n1
end
/-! ### loops that raise -/
def stX {S R : Type} (k kb : S → Option Str) : Fl S R → Option Str
  | .nx s => k s
  | .bk s => kb s
  | .rt _ => none
def forX {α S R : Type} (fx : α → S → Option Str) (fn : α → S → Option (Fl S R)) (k : S → Option Str) : List α → S → Option Str
  | [], s => k s
  | x :: xs, s => match fx x s with
    | some g => some g
    | none => (fn x s).bind (stX (fun s' => forX fx fn k xs s') k)
section
variable {K : PySem.W.Frag} {es : List Sl} {α S R : Type} {tz tb : TS} {c : Addr} {E : XK}
theorem smx_forX {xs : List α} {em : α → Dt} {wi : TI} {g : TG} {vs : List Nat} {env : S → List Sl} {en2 : α → S → List Sl} {ed : R → Dt} {ee : R → List Sl} {s0 : S} {fx : α → S → Option Str} {fn : α → S → Option (Fl S R)} {k : S → Option Str}
    (hi : EvI K wi es (xs.map em)) (w : Wk es (env s0)) (hg : ∀ x s, EvG K g vs (env s) (em x) (en2 x s)) (hx : ∀ x s, SMX K tb E (en2 x s) c (fx x s)) (hb : ∀ x s, SM K tb (en2 x s) (fn x s) (bodyRes env ed ee)) (hk : ∀ s, SMX K tz E (env s) c (k s)) :
    SMX K (tSeq (tFor wi g tb) tz) E es c (forX fx fn k xs s0) := fun r e F G H σ D st q => by
  refine hi F G H σ st _ fun J G1 H1 s1 g1 y => ?_
  refine ⟨fun i m σ' H' => ∃ G' s, Stt K F G' H' σ' (env s) ∧ Same G1 G' ∧ m = xs.length - i ∧ i ≤ xs.length ∧ forX fx fn k (xs.drop i) s = some r, ⟨_, G1, s0, s1.wk w, Same.refl _, rfl, Nat.zero_le _, e⟩, ?_⟩
  rintro i m σ' H' ⟨G', s, st', g', rfl, hle, e'⟩
  by_cases hlt : i < xs.length
  · refine .inr ?_
    have hd : xs.drop i = xs[i] :: xs.drop (i + 1) := List.drop_eq_getElem_cons hlt
    rw [hd] at e'
    obtain ⟨go, yld⟩ := (y i F G' H' σ' (env s) g' st').1 (em xs[i]) (by rw [List.getElem?_map, List.getElem?_eq_getElem hlt]; rfl)
    refine ⟨go, fun σ2 H2 => ∃ G2 s2, Stt K F G2 H2 σ2 (env s2) ∧ Same G1 G2 ∧ forX fx fn k (xs.drop (i + 1)) s2 = some r, fun σ2 H2 ⟨G2, s2, a1, a2, a3⟩ => ⟨xs.length - (i + 1), by omega, G2, s2, a1, a2, rfl, by omega, a3⟩, fun x H2 hy => ?_⟩
    obtain ⟨G2, st2, g2, rx⟩ := yld x H2 hy
    refine hg xs[i] s F G2 H2 σ' x st2 rx _ fun σ3 G3 H3 st3 g3 _ _ => ?_
    have gg := g1.trans (g'.trans (g2.trans g3))
    cases hf : fx xs[i] s with
    | some z =>
      have e2 : forX fx fn k (xs[i] :: xs.drop (i + 1)) s = some z := by
        show (match fx xs[i] s with | some g => some g | none => _) = _
        rw [hf]
      rw [e2] at e'
      cases e'
      exact hx xs[i] s r hf F G3 H3 σ3 _ st3 (q.up gg)
    | none =>
      have e2 : forX fx fn k (xs[i] :: xs.drop (i + 1)) s = (fn xs[i] s).bind (stX (fun s' => forX fx fn k (xs.drop (i + 1)) s') k) := by
        show (match fx xs[i] s with | some g => some g | none => _) = _
        rw [hf]
      rw [e2] at e'
      cases ho : fn xs[i] s with
      | none => rw [ho] at e'; cases e'
      | some o =>
        rw [ho] at e'
        refine hb xs[i] s o ho F G3 H3 σ3 _ st3 ?_
        cases o with
        | nx s' => exact ⟨fun G4 H4 σ4 st4 g4 => ⟨G4, s', st4, g'.trans (g2.trans (g3.trans g4)), e'⟩, fun G4 H4 σ4 st4 g4 => ⟨G4, s', st4, g'.trans (g2.trans (g3.trans g4)), e'⟩⟩
        | bk s' => exact fun G4 H4 σ4 st4 g4 => hk s' r e' F G4 H4 σ4 D st4 (q.up (gg.trans g4))
        | rt r' => cases e'
  · have e3 : i = xs.length := by omega
    subst e3
    refine .inl ⟨(y xs.length F G' H' σ' (env s) g' st').2 (by simp), ?_⟩
    rw [List.drop_length] at e'
    exact hk s r e' F G' H' σ' D st' (q.up (g1.trans g'))
end
/-! ### the suites -/
section
variable {K : PySem.W.Frag} {a dd c : Addr} {i : Nat} {f : Str} {ta tb : TE} {es : List Sl}
theorem evh_addS {g h : Str} (ha : EvH K a dd i f ta es (.str g)) (hb : EvH K a dd i f tb es (.str h)) (hz : g.length + h.length ≤ 16777216) : EvH K a dd i f (tOp rAddS ta tb) es (.str (g ++ h)) :=
  evh_op ha hb fun F G H σ es x y s rx ry Q q => by
    cases rx
    cases ry
    exact ⟨_, _, rfl, rfl, by rw [sizeLine_eq]; exact hz, q _ G H s (Same.refl _) (.str _)⟩
end
section
variable {K : PySem.W.Frag} {a dd : Addr} {i : Nat} {f : Str} {t : TS} {es : List Sl} {ρ : Type} {p : Option ρ} {oc : ρ → Res} {b : Prop} [Decidable b]
theorem smh_ite (h : b → SMH K a dd i f t es p oc) : SMH K a dd i f t es (if b then p else none) oc := fun r e => by
  by_cases q : b
  · rw [if_pos q] at e
    exact h q r e
  · rw [if_neg q] at e
    cases e
theorem catS_len {g h : Str} (hh : h.length ≤ 1000) (hg : g.length ≤ 1000 := by decide) : g.length + h.length ≤ 16777216 := by
  have : g.length + h.length ≤ 2000 := by omega
  exact Nat.le_trans this (by decide)
end
/-! ### the try -/
section
variable {K : PySem.W.Frag} {es : List Sl} {ρ : Type} {tb : WX → TS} {c C1 C2 : Addr} {i : Nat} {x x1 x2 : Option Str} {m : Option ρ} {oc : ρ → Res}
theorem caught {ts : Addr → Value → Option Addr → TS} {f : Str} {hm : Str → Option ρ} {F G0 G H : Hp} {σ : L2.St} {D : Ends} {r : ρ} {dd a : Addr} (hu : es[i]? = some .un) (hh : ∀ a dd f, SMH K a dd i f (ts a (.ref c) (some dd)) es (hm f) oc)
    (ho : ∀ r fs, oc r = .nx fs → fs[i]? = some .un) (hno : ∀ r, (∃ fs, oc r = .nx fs) ∨ ∃ d fs, oc r = .rt d fs) (e : hm f = some r) (s1 : Stt K F G H σ es) (g1 : Same G0 G) (h1 : H dd = some (xdF f)) (f1 : F dd = none) (n1 : G dd = none) (q : Good K F G0 D (oc r)) :
    ts a (.ref c) (some dd) (uset D i) (σ.set i (some (.ref a))) H := by
  have hi : i < σ.length := by rw [s1.len]; exact (List.getElem?_eq_some_iff.mp hu).1
  have es' : es.set i .un = es := List.ext_getElem? fun k => by
    by_cases q : i = k
    · subst q
      rw [List.getElem?_set_self (List.getElem?_eq_some_iff.mp hu).1, hu]
    · rw [List.getElem?_set_ne q]
  have s2 : Stt K (upd F dd (xdF f)) G H (σ.set i (some (.ref a))) es := by
    have := (s1.hold h1 n1 f1).undo i (some (.ref a))
    rw [es'] at this
    exact this
  refine hh a dd f r e _ G H _ _ s2 ⟨upd_same, List.getElem?_set_self hi⟩ ?_
  rcases hno r with ⟨fs, w⟩ | ⟨d, fs, w⟩
  · have wi := ho r fs w
    rw [w] at q ⊢
    intro G2 H2 σ2 s3 g2
    refine q G2 H2 (σ2.set i none) ?_ (g1.trans g2)
    have := (s3.loose f1).undo i none
    have e3 : fs.set i .un = fs := List.ext_getElem? fun k => by
      by_cases q : i = k
      · subst q
        rw [List.getElem?_set_self (List.getElem?_eq_some_iff.mp wi).1, wi]
      · rw [List.getElem?_set_ne q]
    rw [e3] at this
    exact this
  · rw [w] at q ⊢
    intro v G2 H2 σ2 s3 g2 r2
    exact q v G2 H2 σ2 (s3.loose f1) (g1.trans g2) r2
variable {R : Type} {env : Unit → List Sl} {ed : R → Dt} {ee : R → List Sl} {mF : Option (Fl Unit R)}
theorem lr_nx (he2 : (env ())[i]? = some .un) : ∀ (r : Fl Unit R) fs, loopRes env ed ee r = .nx fs → fs[i]? = some .un := fun r fs h => by
  cases r with
  | nx s => cases h; exact he2
  | bk s => cases h; exact he2
  | rt r => cases h
theorem lr_no : ∀ (r : Fl Unit R), (∃ fs, loopRes env ed ee r = .nx fs) ∨ ∃ d fs, loopRes env ed ee r = .rt d fs := fun r => by
  cases r with
  | nx s => exact .inl ⟨_, rfl⟩
  | bk s => exact .inl ⟨_, rfl⟩
  | rt r => exact .inr ⟨_, _, rfl⟩
/-- one clause: what is raised is of the class c, the clause names C1 -/
theorem sm_tryN1 {ts : Addr → Value → Option Addr → TS} {hm : Str → Option (Fl Unit R)} (he : PySem.W.exmOne K (.ref c) (.ref C1) = some true) (hu : es[i]? = some .un) (he2 : (env ())[i]? = some .un)
    (hx : ∀ W, SMY K (tb W) (WE W) es es c x) (hn : x = none → ∀ W, SM K (tb W) es mF (loopRes env ed ee)) (hh : ∀ a dd f, SMH K a dd i f (ts a (.ref c) (some dd)) es (hm f) (loopRes env ed ee)) :
    SM K (fun D σ H => tb (wN K D [(.ref C1, i, ts)]) D σ H) es (tryX x hm mF) (loopRes env ed ee) := fun r e F G H σ D s q => by
  cases x with
  | none => exact hn rfl _ r e F G H σ D s q
  | some f =>
    refine hx _ f rfl F G H σ D s fun dd G' H' σ' s1 g1 h1 f1 n1 => ⟨true, he, fun _ a ha => ?_, fun z => by cases z⟩
    exact caught hu hh (lr_nx he2) lr_no e s1 g1 h1 f1 n1 q
/-- two clauses -/
theorem sm_tryN2 {ts1 ts2 : Addr → Value → Option Addr → TS} {hm1 hm2 : Str → Option (Fl Unit R)} (e1 : PySem.W.exmOne K (.ref C1) (.ref C1) = some true) (e2 : PySem.W.exmOne K (.ref C2) (.ref C2) = some true) (e3 : PySem.W.exmOne K (.ref C2) (.ref C1) = some false) (hu : es[i]? = some .un) (he2 : (env ())[i]? = some .un)
    (hx1 : ∀ W, SMY K (tb W) (WE W) es es C1 x1) (hx2 : ∀ W, SMY K (tb W) (WE W) es es C2 x2) (hn : x1 = none → x2 = none → ∀ W, SM K (tb W) es mF (loopRes env ed ee)) (hh1 : ∀ a dd f, SMH K a dd i f (ts1 a (.ref C1) (some dd)) es (hm1 f) (loopRes env ed ee)) (hh2 : ∀ a dd f, SMH K a dd i f (ts2 a (.ref C2) (some dd)) es (hm2 f) (loopRes env ed ee)) :
    SM K (fun D σ H => tb (wN K D [(.ref C1, i, ts1), (.ref C2, i, ts2)]) D σ H) es (tryX x1 hm1 (tryX x2 hm2 mF)) (loopRes env ed ee) := fun r e F G H σ D s q => by
  cases x1 with
  | some f =>
    refine hx1 _ f rfl F G H σ D s fun dd G' H' σ' s1 g1 h1 f1 n1 => ⟨true, e1, fun _ a ha => ?_, fun z => by cases z⟩
    exact caught hu hh1 (lr_nx he2) lr_no e s1 g1 h1 f1 n1 q
  | none =>
    cases x2 with
    | none => exact hn rfl rfl _ r e F G H σ D s q
    | some f =>
      refine hx2 _ f rfl F G H σ D s fun dd G' H' σ' s1 g1 h1 f1 n1 => ⟨false, e3, (fun z => by cases z), fun _ => ⟨true, e2, (fun _ a ha => ?_), (fun z => by cases z)⟩⟩
      exact caught hu hh2 (lr_nx he2) lr_no e s1 g1 h1 f1 n1 q
end
end DL

/-! Dl19: own lists that an expression reads as data, and that may be written to afterwards -/
namespace DL
open PySem L2
/-- own lists read as data -/
def Brw : List Sl → List Sl → Prop
  | [], [] => True
  | a :: as, b :: bs => (b = .un ∨ (a = b ∧ a.isOwn = false) ∨ ∃ p xs, a = .own p xs ∧ b = .d (.lst xs)) ∧ Brw as bs
  | _, _ => False
theorem Brw.len : ∀ {as bs : List Sl}, Brw as bs → as.length = bs.length
  | [], [], _ => rfl
  | _ :: _, _ :: _, h => congrArg (· + 1) (Brw.len h.2)
  | [], _ :: _, h => h.elim
  | _ :: _, [], h => h.elim
theorem Brw.get : ∀ {as bs : List Sl} {i : Nat} {b : Sl}, Brw as bs → bs[i]? = some b → ∃ a, as[i]? = some a ∧ (b = .un ∨ (a = b ∧ a.isOwn = false) ∨ ∃ p xs, a = .own p xs ∧ b = .d (.lst xs))
  | [], [], _, _, _, e => by simp at e
  | a :: as, b :: bs, 0, c, h, e => by simp at e; subst e; exact ⟨a, rfl, h.1⟩
  | a :: as, b :: bs, i + 1, c, h, e => by
    obtain ⟨x, h1, h2⟩ := Brw.get (i := i) h.2 (by simpa using e)
    exact ⟨x, by simpa using h1, h2⟩
  | [], _ :: _, _, _, h, _ => h.elim
  | _ :: _, [], _, _, h, _ => h.elim
theorem Brw.noown {as bs : List Sl} (h : Brw as bs) {i : Nat} {b : Sl} (e : bs[i]? = some b) : b.isOwn = false := by
  obtain ⟨a, _, q⟩ := h.get e
  rcases q with rfl | ⟨rfl, q⟩ | ⟨p, xs, _, rfl⟩
  · rfl
  · exact q
  · rfl
section
variable {K : PySem.W.Frag} {F G H H1 : Hp} {σ : L2.St} {es es' : List Sl}
theorem same_remF (s : Stt K F G H σ es) : Same G (DL.rem F H) := fun a o e => by
  have hF : F a = none := by
    cases q : F a with
    | none => rfl
    | some x => rw [s.dj a x q] at e; cases e
  rw [rem_of hF]
  exact s.g a o e
theorem Stt.borrow (s : Stt K F G H σ es) (b : Brw es es') : Stt K F (DL.rem F H) H σ es' where
  f := s.f
  g := fun a o e => (rem_some e).1
  dj := fun a o e => by
    unfold DL.rem
    rw [e]
  len := by rw [s.len, b.len]
  sl := fun i t e => by
    obtain ⟨a, ea, q⟩ := b.get e
    obtain ⟨o, ho, k⟩ := s.sl i a ea
    refine ⟨o, ho, ?_⟩
    rcases q with rfl | ⟨rfl, q⟩ | ⟨p, xs, rfl, rfl⟩
    · trivial
    · cases a with
      | un => trivial
      | d x =>
        obtain ⟨v, e, r⟩ := k
        exact ⟨v, e, r.mono (same_remF s)⟩
      | own p xs => cases q
      | obo p C fs => cases q
    · obtain ⟨p', vs, eo, gp, fp, hp, rr, _⟩ := k
      exact ⟨.ref p', eo, .lst (.inl (.inl (by rw [rem_of fp]; exact hp))) (rr.mono (same_remF s))⟩
  ow := fun i j t u ne ei ej hi hj => by
    rw [b.noown ei] at hi
    cases hi
/-- the heap has grown -/
theorem Stt.grown (s : Stt K F G H σ es) (h : Same H H1) : Stt K F G H1 σ es where
  f := s.f.trans h
  g := s.g.trans h
  dj := s.dj
  len := s.len
  sl := fun i t e => by
    obtain ⟨o, ho, k⟩ := s.sl i t e
    exact ⟨o, ho, k.grow (Same.refl _) (fun p u _ _ e => h _ _ e) fun p g _ f => ⟨g, f⟩⟩
  ow := s.ow
/-- data that tells itself -/
def Flat (d : Dt) : Prop := ∀ (K : PySem.W.Frag) (G G' : Hp) (v : V), Rep K G v d → Rep K G' v d
theorem flat_int {i : Int} : Flat (.int i) := fun K G G' v r => by cases r; exact .int i
theorem flat_bl {i : Bool} : Flat (.bl i) := fun K G G' v r => by cases r; exact .bl i
theorem flat_str {i : Str} : Flat (.str i) := fun K G G' v r => by cases r; exact .str i
theorem flat_all {ds : List Dt} (h : ∀ d ∈ ds, Flat d) : ∀ (G G' : Hp) (vs : List V), Reps K G vs ds → Reps K G' vs ds := by
  induction ds with
  | nil => intro G G' vs r; cases r; exact .nil
  | cons d ds ih =>
    intro G G' vs r
    cases r with
    | cons a b => exact .cons (h d List.mem_cons_self K G G' _ a) (ih (fun d hd => h d (List.mem_cons_of_mem _ hd)) G G' _ b)
theorem flats_int {xs : List Int} : ∀ d ∈ xs.map Dt.int, Flat d := fun d h => by
  obtain ⟨x, _, rfl⟩ := List.mem_map.mp h
  exact flat_int
theorem same_all (s : Stt K F G H σ es) {G1 : Hp} (f1 : Same F H1) (g1 : Same G1 H1) (g : Same (DL.rem F H) G1) : Same H H1 := fun a o e => by
  cases q : F a with
  | some x =>
    have := s.f a x q
    rw [e] at this
    cases this
    exact f1 a o q
  | none => exact g1 a o (g a o (by rw [rem_of q]; exact e))
variable {te : TE} {d : Dt} {ds : List Dt}
theorem ev_borrow (b : Brw es es') (h : Ev K te es' d) (hd : Flat d) : Ev K te es d := fun F G H σ s Q q =>
  h F _ H σ (s.borrow b) _ fun v G1 H1 s1 g1 r1 => q v G H1 (s.grown (same_all s s1.f s1.g g1)) (Same.refl _) (hd K _ _ v r1)
theorem el_borrow (b : Brw es es') (h : EvL K te es' ds) (hd : ∀ d ∈ ds, Flat d) : EvL K te es ds := fun F G H σ s Q q =>
  h F _ H σ (s.borrow b) _ fun p vs G1 H1 s1 hp g1 r1 => by
    have f1 : Same F H1 := fun a o e => s1.f a o (by rw [upd_ne (ne_of_none e hp)]; exact e)
    have sm := same_all s f1 s1.g g1
    have gp1 : G1 p = none := s1.dj p _ upd_same
    have hH : H p = none := by
      cases z : H p with
      | none => rfl
      | some o =>
        have : DL.rem F H p = some o := by rw [rem_of hp]; exact z
        have := g1 p o this
        rw [gp1] at this
        cases this
    have hG : G p = none := s.gnone hH
    have e := s.grown sm
    refine q p vs G H1 ⟨fun a o e => ?_, e.g, fun a o e => ?_, e.len, fun i t et => ?_, e.ow⟩ hp (Same.refl _) (flat_all hd _ _ _ r1)
    · exact s1.f a o e
    · by_cases za : a = p
      · subst za
        exact hG
      · rw [upd_ne za] at e
        exact s.dj a o e
    · obtain ⟨o, ho, k⟩ := s.sl i t et
      refine ⟨o, ho, k.grow (Same.refl _) (fun p u _ _ e => sm _ _ e) fun r g ⟨u, hu⟩ f => ⟨g, ?_⟩⟩
      rw [upd_ne (by rintro rfl; rw [hH] at hu; cases hu)]
      exact f
end
end DL

/-! Dl20: isinstance of a caught exception of an own class with a field -/
namespace L2
open PySem PySem.Spec PyProof.Rows
/-- what isinstance asks of the class D -/
structure IsX (K : PySem.W.Frag) (D : Addr) : Prop where
  ga : PySem.W.findIn K (.ref D) "__getattribute__" = some (some (.builtin "BaseException.__getattribute__"))
  gg : PySem.W.findIn K (.ref D) "__getattr__" = some none
  sub : PySem.W.subIn K (.ref D) (.type "BaseException") = some true
  hd : PySem.W.hasDictIn K D = true
  ia : PySem.W.findIn K (.ref D) "__class__" = some (some (.builtin "object.__class__"))
  ib : PySem.W.specialIn K (.builtin "object.__class__") "__get__" = some (some (.builtin "getset_descriptor.__get__"))
  ic : PySem.W.takesIn K (.builtin "object.__class__") = some true
  id : PySem.W.mroIn K D (.type "object") = some true
def rIsX (K : PySem.W.Frag) (D a : Addr) (cls : Value) (d : Option Addr) : List V → Hp → VK → Prop := fun xs H Q => ∃ (c : V) (cv : Value) (b : Bool) (dd : Addr) (fs : List (Str × V)), xs = [.ref a, c] ∧ cls = .ref D ∧ d = some dd ∧ H dd = some (.xd fs) ∧ (∀ u, RelV c u → u = cv) ∧ PySem.W.kitOne K (.ref D) cv = some b ∧ Q (.bl b) H
theorem call_isX {X : Cx} {a D : Addr} {oe : Obj} {cls : Value} {d : Option Addr} {pn : List (Addr × Obj)} (C : IsX X.K D) (hz : Zc cls d oe) (hf : ∃ vs, oe.data = .fields vs) : CallR (X.suite a ((a, oe) :: pn)) (.builtin "isinstance") (rIsX X.K D a cls d) := by
  intro pins s σ H xs us Q I r h
  obtain ⟨c, cv, b, dd, fs, rfl, ec, ed, ea, hcv, e, q⟩ := h
  subst ec
  subst ed
  cases r with
  | cons rx rr =>
    cases rr with
    | cons rt rr =>
      cases rr
      cases rx
      have ec := hcv _ rt
      subst ec
      obtain ⟨hget, _⟩ := I.pin (a, oe) (List.mem_append.mpr (.inl List.mem_cons_self))
      obtain ⟨vs, hv⟩ := hf
      have hx : ObjOk X.prog X.w H s.heap dd (.xd fs) := I.hok dd _ ea
      obtain ⟨mA, hns, _⟩ := hx
      obtain ⟨od, ho, _⟩ := lookIn_ns hns
      have J : PySem.W.InstAt s.heap a oe D (some od) := ⟨hget, hz.1, by unfold PySem.W.notCls; rw [hv] <;> rfl, by rw [hz.2]; exact ho⟩
      have hcl : (PySem.W.clsIn X.K D).isSome = true := by
        obtain ⟨cd, hc, _⟩ := PySem.W.any_some C.hd
        rw [hc]
        rfl
      exact PySem.W.kia_one (PySem.W.kitx_exc hcl C.ga C.gg C.sub C.ia C.ib C.ic C.id) I.kIn J e (fun z => nomatch z) fun tk => ⟨.bl b, H, I.kept (t' := tk) fun _ _ z => z, rfl, q⟩
end L2
namespace DL
open PySem L2
section
variable {K : PySem.W.Frag} {a dd c : Addr} {i : Nat} {f : Str} {te ta tb : TE} {es : List Sl} {b x y : Bool}
theorem evh_isX {v : V} {cv : Value} (hv : ∀ u, RelV v u → u = cv) (e : PySem.W.kitOne K (.ref c) cv = some b) : EvH K a dd i f (tCB (rIsX K c a (.ref c) (some dd)) (tCons (tVar i) (tCons (tC v) tNil))) es (.bl b) := fun F G H σ s h Q q =>
  ⟨_, h.2, v, cv, b, dd, _, rfl, rfl, rfl, s.f _ _ h.1, hv, e, q _ G H s (Same.refl _) (.bl b)⟩
theorem evh_and (h1 : EvH K a dd i f ta es (.bl x)) (h2 : EvH K a dd i f tb es (.bl y)) : EvH K a dd i f (tAndV ta tb) es (.bl (x && y)) := fun F G H σ s h Q q => h1 F G H σ s h _ fun v G1 H1 s1 g1 r1 => by
  cases r1
  refine ⟨x, rfl, ?_⟩
  cases x with
  | true => exact h2 F G1 H1 σ s1 h Q fun v G2 H2 s2 g2 r2 => q v G2 H2 s2 (g1.trans g2) r2
  | false => exact q _ G1 H1 s1 g1 (.bl false)
theorem evh_not (h1 : EvH K a dd i f ta es (.bl x)) : EvH K a dd i f (tNotV ta) es (.bl (!x)) := fun F G H σ s h Q q => h1 F G H σ s h _ fun v G1 H1 s1 g1 r1 => by
  cases r1
  exact ⟨x, rfl, q _ G1 H1 s1 g1 (.bl _)⟩
end
end DL

/-! Dl21: expressions that change the slots (an own list given to a def that writes to it); texts -/
namespace DL
open PySem L2 PySem.Spec
section
variable {K : PySem.W.Frag} {es es1 es2 es' fs : List Sl} {te ta tb : TE} {t : TA} {a b c d : Dt} {ds : List Dt} {r : R2} {tt : TT}
/-- an expression that leaves the slots es' -/
def EvM (K : PySem.W.Frag) (te : TE) (es es' : List Sl) (d : Dt) : Prop := ∀ F G H σ, Stt K F G H σ es → ∀ Q : VK, (∀ v G' H', Stt K F G' H' σ es' → Same G G' → Rep K G' v d → Q v H') → te σ H Q
def EvMA (K : PySem.W.Frag) (ta : TA) (es es' : List Sl) (ds : List Dt) : Prop := ∀ F G H σ, Stt K F G H σ es → ∀ Q : List V → Hp → Prop, (∀ vs G' H', Stt K F G' H' σ es' → Same G G' → Reps K G' vs ds → Q vs H') → ta σ H Q
def EvMT (K : PySem.W.Frag) (tt : TT) (es es' : List Sl) (b : Bool) : Prop := ∀ F G H σ, Stt K F G H σ es → ∀ Q : Bool → Hp → Prop, (∀ G' H', Stt K F G' H' σ es' → Same G G' → Q b H') → tt σ H Q
theorem evm_of (h : Ev K te es d) : EvM K te es es d := h
theorem eam_nil : EvMA K tNil es es [] := ea_nil
theorem eam_cons {tr : TA} (ha : EvM K ta es es1 a) (hr : EvMA K tr es1 es2 ds) : EvMA K (tCons ta tr) es es2 (a :: ds) := fun F G H σ s Q q =>
  ha F G H σ s _ fun x G1 H1 s1 g1 r1 => hr F G1 H1 σ s1 _ fun xs G2 H2 s2 g2 r2 => q _ G2 H2 s2 (g1.trans g2) (.cons (r1.mono g2) r2)
theorem eam_of (h : EvA K t es ds) : EvMA K t es es ds := h
theorem evm_is (h : EvM K te es es' a) (e : a = b) : EvM K te es es' b := e ▸ h
theorem evm_op (ha : EvM K ta es es1 a) (hb : EvM K tb es1 es2 b) (hr : R2D K r a b c) : EvM K (tOp r ta tb) es es2 c := fun F G H σ s Q q =>
  ha F G H σ s _ fun x G1 H1 s1 g1 r1 => hb F G1 H1 σ s1 _ fun y G2 H2 s2 g2 r2 => hr F G2 H2 σ es2 x y s2 (r1.mono g2) r2 Q fun v G3 H3 s3 g3 r3 => q v G3 H3 s3 (g1.trans (g2.trans g3)) r3
theorem evm_cb {r : List V → Hp → VK → Prop} (h : EvMA K t es es' ds) (hr : RLD K r ds c) : EvM K (tCB r t) es es' c := fun F G H σ s Q q =>
  h F G H σ s _ fun xs G1 H1 s1 g1 r1 => hr F G1 H1 σ es' xs s1 r1 Q fun v G3 H3 s3 g3 r3 => q v G3 H3 s3 (g1.trans g3) r3
theorem evm_un {r : V → Hp → VK → Prop} (ha : EvM K ta es es' a) (hr : R1D K r a c) : EvM K (tUn r ta) es es' c := fun F G H σ s Q q =>
  ha F G H σ s _ fun x G1 H1 s1 g1 r1 => hr F G1 H1 σ es' x s1 r1 Q fun v G3 H3 s3 g3 r3 => q v G3 H3 s3 (g1.trans g3) r3
theorem evm_tup (h : EvMA K t es es' ds) (hl : ds.length ≤ 100000) : EvM K (tTup t) es es' (.tup ds) := fun F G H σ s Q q =>
  h F G H σ s _ fun xs G1 H1 s1 g1 r1 => ⟨by rw [r1.length]; exact Nat.le_trans hl (by decide), fun p hp =>
    q _ _ _ (s1.new hp) (g1.trans (same_upd (s1.gnone hp))) (.tup (.inl (.inl upd_same)) (r1.mono (same_upd (s1.gnone hp))))⟩
/-- what a rule says of two values, as a relation -/
theorem r2_of (h : Ev K (tOp r (tVar 0) (tVar 1)) [.d a, .d b] c) : R2D K r a b c := fun F G H σ es x y s rx ry Q q => by
  have s2 : Stt K (DL.rem G H) G H [some x, some y] [.d a, .d b] := stt_data (vs := [x, y]) (ds := [a, b]) s.rem.1 s.g s.rem.2 (.cons rx (.cons ry .nil))
  obtain ⟨v, ev, w, ew, k⟩ := h _ G H _ s2 Q fun v G1 H1 s1 g1 r1 => q v G1 H1 (s.after s1.f s1.g s1.dj g1) g1 r1
  cases ev
  cases ew
  exact k
theorem r1_of {r : V → Hp → VK → Prop} (h : Ev K (tUn r (tVar 0)) [.d a] c) : R1D K r a c := fun F G H σ es x s rx Q q => by
  have s2 : Stt K (DL.rem G H) G H [some x] [.d a] := stt_data (vs := [x]) (ds := [a]) s.rem.1 s.g s.rem.2 (.cons rx .nil)
  obtain ⟨v, ev, k⟩ := h _ G H _ s2 Q fun v G1 H1 s1 g1 r1 => q v G1 H1 (s.after s1.f s1.g s1.dj g1) g1 r1
  cases ev
  exact k
theorem rl_of1 {r : List V → Hp → VK → Prop} (h : Ev K (tCB r (tCons (tVar 0) tNil)) [.d a] c) : RLD K r [a] c := fun F G H σ es xs s rx Q q => by
  cases rx with
  | cons rx rr =>
    cases rr
    rename_i x
    have s2 : Stt K (DL.rem G H) G H [some x] [.d a] := stt_data (vs := [x]) (ds := [a]) s.rem.1 s.g s.rem.2 (.cons rx .nil)
    obtain ⟨v, ev, k⟩ := h _ G H _ s2 Q fun v G1 H1 s1 g1 r1 => q v G1 H1 (s.after s1.f s1.g s1.dj g1) g1 r1
    cases ev
    exact k
/-- f(..), all arguments data -/
theorem evm_call {P : List Dt → Dt → Prop} {E : XK} (ha : EvMA K t es es' ds) (hP : P ds d) : EvM K (tCall (FSpec K (RD P)) [] E t) es es' d := fun F G H σ s Q q =>
  ha F G H σ s _ fun vs G1 H1 s1 g1 r1 => by
    show FSpec K (RD P) (vs ++ []) H1 Q E
    rw [List.append_nil]
    exact ⟨DL.rem G1 H1, G1, ds.map .d, d, ds.map .d, stt_data s1.rem.1 s1.g s1.rem.2 r1, ⟨_, rfl, rfl, hP⟩, fun v G2 H2 s2 g2 r2 => q v G2 H2 (s1.after s2.f s2.g s2.dj g2) (g1.trans g2) r2⟩
/-! ### defs that write to their first argument, a list -/
def RMu (P : List Dt → List Dt → Dt → List Dt → Prop) : List Sl → Dt → List Sl → Prop := fun ss d ss' => ∃ p xs ds ys, ss = .own (some p) xs :: ds.map .d ∧ ss' = .own (some p) ys :: ds.map .d ∧ P xs ds d ys
theorem own_data {F G H : Hp} {p : Addr} {vs ws : List V} {xs ds : List Dt} (f : Same F H) (g : Same G H) (dj : ∀ a o, F a = some o → G a = none) (gp : G p = none) (fp : F p = none) (hp : H p = some (.lst ws)) (rw' : Reps K G ws xs) (r : Reps K G vs ds) :
    Stt K F G H ((V.ref p :: vs).map some) (.own (some p) xs :: ds.map .d) := by
  have base := stt_data f g dj r
  refine ⟨f, g, dj, by rw [List.map_cons, List.length_cons, List.length_cons, base.len], fun i t e => ?_, fun i j t u nij ei ej hi hj => ?_⟩
  · cases i with
    | zero =>
      cases e
      exact ⟨_, rfl, p, ws, rfl, gp, fp, hp, rw', fun q e => (Option.some.inj e).symm⟩
    | succ i => exact base.sl i t e
  · have no : ∀ (k : Nat) z, ((ds.map Sl.d))[k]? = some z → z.isOwn = true → False := fun k z e h => by
      rw [List.getElem?_map] at e
      cases q : ds[k]? with
      | none => rw [q] at e; cases e
      | some d => rw [q] at e; cases e; cases h
    cases i with
    | zero =>
      cases j with
      | zero => exact absurd rfl nij
      | succ j => exact (no j u ej hj).elim
    | succ i => exact (no i t ei hi).elim
end
section
open PyProof.Rows
variable {P : Program} {w : World} {K : PySem.W.Frag} {mg : Str → Option Value} {base : Heap}
theorem fn_M {x qual : Str} {st : Stmt} {f : Addr} {fd : FuncData} {N ps : List Str} {k : Nat} {R : List Dt → List Dt → Dt → List Dt → Prop} (F : Fun K x qual st f fd) (S : FnScope N ps (defScope st)) (hl : ∀ xs ds d ys, R xs ds d ys → ds.length + 1 = ps.length)
    (body : ∀ (cdv : Value) (A : Around) (outer : List Env) (s : Shared) (H : Hp) (E : XK), Room k (A.deeper (PyProof.Rows.envOfC qual (defScope st) s.heap.objs.size f cdv)) →
      ∃ t, PSs (cxOf CX0 P w K mg base N qual (defScope st) f cdv A outer s H E).nox (defBody st) t ∧ ∀ p xs ds d ys, R xs ds d ys → ∃ o es, SEv K t (.own (some p) xs :: ds.map .d ++ List.replicate (N.length - ps.length) .un) o ∧ Ends2 d (.own (some p) ys :: es) o) :
    FnOk P w K mg base CX0 (k + 1) f fd ps (FSpec K (RMu R)) := by
  refine F.ok S (fun vs H Q E h => ?_) (fun cdv A outer s H vs Q E hr h => ?_)
  · obtain ⟨F, G, ss, d, ss', s, ⟨p, xs, ds, ys, rfl, _, hR⟩, _⟩ := h
    have := s.len
    rw [List.length_map, List.length_cons, List.length_map, hl xs ds d ys hR] at this
    exact this
  · obtain ⟨t, ht, hb⟩ := body cdv A outer s H E hr
    refine ⟨t, ht, ?_⟩
    obtain ⟨F1, G, ss, d, ss', st1, ⟨p, xs, ds, ys, rfl, rfl, hR⟩, q⟩ := h
    obtain ⟨o, es, hs, he⟩ := hb p xs ds d ys hR
    refine hs F1 G H _ _ (stt_start st1 (by rw [List.length_cons, List.length_map, hl xs ds d ys hR])) (good_end he fun v G' H' σ' s' g r => ?_)
    cases vs with
    | nil =>
      have := st1.len
      simp at this
    | cons v0 vs =>
      obtain ⟨o0, ho0, p0, ws0, e0, g0, f0, h0, r0, a0⟩ := st1.sl 0 _ rfl
      cases ho0
      cases e0
      obtain rfl := a0 p rfl
      obtain ⟨o1, ho1, p1, ws1, e1, g1, f1, h1, r1, a1⟩ := s'.sl 0 _ rfl
      subst e1
      obtain rfl := a1 _ rfl
      have rs : Reps K G vs ds := data_of (vs := vs) (ds := ds) (K := K) (F := F1) (G := G) (H := H) (by have := st1.len; simpa using this) fun i t e => st1.sl (i + 1) t e
      exact q v G' H' (own_data s'.f s'.g s'.dj g1 f1 h1 r1 (rs.mono g)) g r
end
section
variable {K : PySem.W.Frag} {es es1 es2 es' fs : List Sl} {te ta tb : TE} {t : TA} {a b c d : Dt} {ds xs ys : List Dt} {tt : TT}
/-- the heap of others behind a call that may write at p alone -/
def remP (G H : Hp) (p : Addr) : Hp := fun x => if x = p then none else DL.rem G H x
theorem remP_some {G H : Hp} {p x : Addr} {o : HO} (h : remP G H p x = some o) : x ≠ p ∧ H x = some o ∧ G x = none := by
  unfold remP at h
  by_cases q : x = p
  · rw [if_pos q] at h; cases h
  · rw [if_neg q] at h
    exact ⟨q, rem_some h⟩
theorem remP_of {G H : Hp} {p x : Addr} (h : x ≠ p) (g : G x = none) : remP G H p x = H x := by
  unfold remP
  rw [if_neg h, rem_of g]
theorem Stt.wrote {F G H G' H' : Hp} {σ : L2.St} {i : Nat} {a : Option Addr} {p : Addr} {ws : List V} (s : Stt K F G H σ es) (hi : es[i]? = some (.own a xs)) (hp : σ[i]? = some (some (.ref p))) (f : Same (remP G H p) H') (g : Same G' H') (dj : ∀ x o, remP G H p x = some o → G' x = none) (gg : Same G G')
    (gp : G' p = none) (h' : H' p = some (.lst ws)) (r : Reps K G' ws ys) : Stt K F G' H' σ (es.set i (.own a ys)) := by
  have hlt := (List.getElem?_eq_some_iff.mp hi).1
  obtain ⟨o0, ho0, p0, ws0, e0, g0, f0, h0, r0, a0⟩ := s.sl i _ hi
  rw [hp] at ho0
  subst e0
  cases ho0
  have up : ∀ x o, F x = some o → remP G H p x = some o := fun x o e => by
    have ne : x ≠ p := by rintro rfl; rw [f0] at e; cases e
    rw [remP_of ne (s.dj x o e)]
    exact s.f x o e
  refine ⟨fun x o e => f x o (up x o e), g, fun x o e => dj x o (up x o e), by rw [List.length_set]; exact s.len, fun j t e => ?_, fun j k t u ne ej ek hj hk => ?_⟩
  · by_cases q : i = j
    · subst q
      rw [List.getElem?_set_self hlt] at e
      cases e
      exact ⟨_, hp, p, ws, rfl, gp, f0, h', r, a0⟩
    · rw [List.getElem?_set_ne q] at e
      obtain ⟨o, ho, k⟩ := s.sl j t e
      refine ⟨o, ho, ?_⟩
      cases t with
      | un => trivial
      | d x =>
        obtain ⟨v, ev, rv⟩ := k
        exact ⟨v, ev, rv.mono gg⟩
      | own b zs =>
        obtain ⟨p1, vs, eo, g1, f1, h1, rr, an⟩ := k
        have ne : p1 ≠ p := by
          rintro rfl
          exact s.ow i j _ _ q hi e rfl rfl (by rw [hp, ho, eo])
        have m := remP_of (G := G) (H := H) ne g1
        rw [h1] at m
        exact ⟨p1, vs, eo, dj _ _ m, f1, f _ _ m, rr.mono gg, an⟩
      | obo b C zs =>
        obtain ⟨p1, dx, vs, eo, g1, f1, h1, rr, an⟩ := k
        have ne : p1 ≠ p := by
          rintro rfl
          exact s.ow i j _ _ q hi e rfl rfl (by rw [hp, ho, eo])
        have m := remP_of (G := G) (H := H) ne g1
        rw [h1] at m
        refine ⟨p1, dx, vs, eo, dj _ _ m, f1, f _ _ m, ?_, an⟩
        exact rr.mono gg
  · have get : ∀ (j : Nat) (t : Sl), (es.set i (.own a ys))[j]? = some t → t.isOwn = true → ∃ t' : Sl, es[j]? = some t' ∧ t'.isOwn = true := fun j t e h => by
      by_cases q : i = j
      · subst q
        exact ⟨_, hi, rfl⟩
      · rw [List.getElem?_set_ne q] at e
        exact ⟨t, e, h⟩
    obtain ⟨t', e1, h1⟩ := get j t ej hj
    obtain ⟨u', e2, h2⟩ := get k u ek hk
    exact s.ow j k t' u' ne e1 e2 h1 h2
/-- f(own list, ..) -/
theorem evm_callM {P : List Dt → List Dt → Dt → List Dt → Prop} {E : XK} {i : Nat} {a a0 : Option Addr} {xs0 : List Dt} (hi0 : es[i]? = some (.own a0 xs0)) (ha : EvMA K t es es1 ds) (hi : es1[i]? = some (.own a xs)) (hP : P xs ds d ys) (he : es1.set i (.own a ys) = es') :
    EvM K (tCall (FSpec K (RMu P)) [] E (tCons (tVar i) t)) es es' d := fun F G H σ s Q q => by
  subst he
  obtain ⟨o0, ho0, p0, _, e0, _⟩ := s.sl i _ hi0
  subst e0
  refine ⟨_, ho0, ha F G H σ s _ fun vs G1 H1 s1 g1 r1 => ?_⟩
  obtain ⟨o1, ho1, p, ws, e1, gp, fp, hp, rr, an⟩ := s1.sl i _ hi
  subst e1
  rw [ho0] at ho1
  obtain rfl : p0 = p := by cases ho1; rfl
  show FSpec K (RMu P) (.ref p0 :: vs ++ []) H1 Q E
  rw [List.append_nil]
  have pp : remP G1 H1 p0 p0 = none := by
    unfold remP
    rw [if_pos rfl]
  refine ⟨remP G1 H1 p0, G1, .own (some p0) xs :: ds.map .d, d, .own (some p0) ys :: ds.map .d, own_data (fun x o e => (remP_some e).2.1) s1.g (fun x o e => (remP_some e).2.2) gp pp hp rr r1, ⟨p0, xs, ds, ys, rfl, rfl, hP⟩, fun v G2 H2 s2 g2 r2 => ?_⟩
  obtain ⟨o2, ho2, p2, ws2, e2, gp2, fp2, hp2, rr2, an2⟩ := s2.sl 0 _ rfl
  cases ho2
  cases e2
  exact q v G2 H2 (s1.wrote hi ho0 s2.f s2.g s2.dj g2 gp2 hp2 rr2) (g1.trans g2) r2
/-- f(a new list, ..) -/
theorem ev_callMF {P : List Dt → List Dt → Dt → List Dt → Prop} {E : XK} (h0 : EvL K te es xs) (ha : EvA K t es ds) (hP : P xs ds d ys) : Ev K (tCall (FSpec K (RMu P)) [] E (tCons te t)) es d := fun F G H σ s Q q =>
  h0 F G H σ s _ fun p ws G0 H0 s0 fp g0 r0 => ha _ G0 H0 σ s0 _ fun vs G1 H1 s1 g1 r1 => by
    have gp : G1 p = none := s1.dj p _ upd_same
    have hp : H1 p = some (.lst ws) := s1.f p _ upd_same
    show FSpec K (RMu P) (.ref p :: vs ++ []) H1 Q E
    rw [List.append_nil]
    have pp : remP G1 H1 p p = none := by
      unfold remP
      rw [if_pos rfl]
    refine ⟨remP G1 H1 p, G1, .own (some p) xs :: ds.map .d, d, .own (some p) ys :: ds.map .d, own_data (fun x o e => (remP_some e).2.1) s1.g (fun x o e => (remP_some e).2.2) gp pp hp (r0.mono g1) r1, ⟨p, xs, ds, ys, rfl, rfl, hP⟩, fun v G2 H2 s2 g2 r2 => ?_⟩
    have up : ∀ x o, F x = some o → remP G1 H1 p x = some o := fun x o e => by
      have ne : x ≠ p := by rintro rfl; rw [fp] at e; cases e
      have e1 : upd F p (.lst ws) x = some o := by rw [upd_ne ne]; exact e
      rw [remP_of ne (s1.dj x o e1)]
      exact s1.f x o e1
    refine q v G2 H2 ⟨fun x o e => s2.f x o (up x o e), s2.g, fun x o e => s2.dj x o (up x o e), s1.len, fun j t e => ?_, s1.ow⟩ (g0.trans (g1.trans g2)) r2
    obtain ⟨o, ho, k⟩ := s1.sl j t e
    refine ⟨o, ho, ?_⟩
    cases t with
    | un => trivial
    | d x =>
      obtain ⟨v, ev, rv⟩ := k
      exact ⟨v, ev, rv.mono g2⟩
    | own b zs =>
      obtain ⟨p1, vs, eo, g3, f3, h3, rr, an⟩ := k
      obtain ⟨f4, ne⟩ := upd_none f3
      have m := remP_of (G := G1) (H := H1) (show p1 ≠ p by rintro rfl; rw [upd_same] at f3; cases f3) g3
      rw [h3] at m
      exact ⟨p1, vs, eo, s2.dj _ _ m, (upd_none f3).2, s2.f _ _ m, rr.mono g2, an⟩
    | obo b C zs =>
      obtain ⟨p1, dx, vs, eo, g3, f3, h3, rr, an⟩ := k
      have m := remP_of (G := G1) (H := H1) (show p1 ≠ p by rintro rfl; rw [upd_same] at f3; cases f3) g3
      rw [h3] at m
      exact ⟨p1, dx, vs, eo, s2.dj _ _ m, (upd_none f3).2, s2.f _ _ m, rr.mono g2, an⟩
/-! ### statements -/
variable {ρ : Type} {u tz : TS} {m p q : Option ρ} {oc : ρ → Res} {ts : TS}
theorem sm_setM {i : Nat} (h : EvM K te es es1 d) (he : es1.set i (.d d) = es') (k : SM K tz es' m oc) : SM K (tSeq (tAsg te (gName i)) tz) es m oc := fun r e F G H σ D s q =>
  h F G H σ s _ fun v G1 H1 s1 g1 r1 => k r e F G1 H1 _ D (he ▸ s1.set r1) (q.up g1)
theorem sm_dropM (h : EvM K te es es1 d) (k : SM K tz es1 m oc) : SM K (tSeq (tDrop te) tz) es m oc := fun r e F G H σ D s q =>
  h F G H σ s _ fun v G1 H1 s1 g1 r1 => k r e F G1 H1 _ D s1 (q.up g1)
theorem sev_rtM (h : EvM K te es es1 d) (w : Wk es1 fs) : SEv K (tSeq (tRet te) tz) es (.rt d fs) := fun F G H σ D s q => h F G H σ s _ fun v G1 H1 s1 g1 r1 => q v G1 H1 σ (s1.wk w) g1 r1
theorem etm_test {b : Bool} (h : EvM K te es es' (.bl b)) : EvMT K (tTest te) es es' b := fun F G H σ s Q q => h F G H σ s _ fun v G1 H1 s1 g1 r1 => by
  cases r1
  exact ⟨b, rfl, q G1 H1 s1 g1⟩
theorem etm_B {b : Bool} (h : EvM K te es es' (.bl b)) : EvMT K (tB te) es es' b := fun F G H σ s Q q => h F G H σ s _ fun v G1 H1 s1 g1 r1 => by
  cases r1
  exact ⟨b, rfl, q G1 H1 s1 g1⟩
theorem etm_not {b : Bool} (h : EvMT K tt es es' b) : EvMT K (tNot tt) es es' (!b) := fun F G H σ s Q q => h F G H σ s _ fun G1 H1 s1 g1 => q G1 H1 s1 g1
theorem sm_ifM {b : Bool} (h : EvMT K tt es es1 b) (h1 : b = true → SM K (tSeq ts tz) es1 p oc) (h2 : b = false → SM K (tSeq u tz) es1 q oc) : SM K (tSeq (tIfS tt ts u) tz) es (if b = true then p else q) oc := fun r e F G H σ D s k =>
  h F G H σ s _ fun G1 H1 s1 g1 => by
    cases b with
    | true =>
      show ts _ σ H1
      exact h1 rfl r e F G1 H1 σ D s1 (k.up g1)
    | false =>
      show u _ σ H1
      exact h2 rfl r e F G1 H1 σ D s1 (k.up g1)
end
/-! ### texts -/
theorem ite_some' {α : Type} {p : Prop} [Decidable p] {m : Option α} {y : α} (h : (if p then m else none) = some y) : p ∧ m = some y := by
  by_cases q : p
  · rw [if_pos q] at h; exact ⟨q, h⟩
  · rw [if_neg q] at h; cases h
def chS (c : Nat) : Str := ⟨#[c]⟩
def strL (z : Str) : List Str := z.cps.toList.map chS
/-- z[i] -/
def sixC (z : Str) (i : Int) : Option Str := if z.length ≤ 16000000 then (atI z.cps.toList i).map chS else none
def scat (a b : Str) : Option Str := if a.length + b.length ≤ 16000000 then some (a ++ b) else none
def inSb (i j : Str) : Bool := !(Builtin.Str.occurrences j i 0 j.length 1).isEmpty
def inS (i j : Str) : Option Bool := some (inSb i j)
def scut (z : Str) (lo hi : Option Int) : Option Str := if z.length ≤ 16000000 then some (cutS z lo hi) else none
/-- str(i), int(z) -/
def strC (i : Int) : Option Str := if i.natAbs.log2 < 1920 then some (toString i) else none
def intC (z : Str) : Option Int := if z.length ≤ 640 then PySem.intText? z else none
end DL
namespace L2
open PySem PySem.Spec PyProof.Rows
def rInSt : R2 := fun x y H Q => ∃ i j, x = .str i ∧ y = .str j ∧ Q (.bl (!(Builtin.Str.occurrences j i 0 j.length 1).isEmpty)) H
def rNinSt : R2 := fun x y H Q => ∃ i j, x = .str i ∧ y = .str j ∧ Q (.bl (!(!(Builtin.Str.occurrences j i 0 j.length 1).isEmpty))) H
def rStrI : List V → Hp → VK → Prop := fun xs H Q => ∃ i : Int, xs = [.int i] ∧ i.natAbs.log2 < 1920 ∧ Q (.str (toString i)) H
def rIntT : List V → Hp → VK → Prop := fun xs H Q => ∃ a n, xs = [.str a] ∧ PySem.intText? a = some n ∧ a.length ≤ 640 ∧ Q (.int n) H
section
variable {X : Cx}
theorem op_adS : OpR X (binaryOp .Add) rAddS := op_add_str
theorem op_inSt : OpR X (compareOp .In) rInSt := op_in_str
theorem op_notinSt : OpR X (compareOp .NotIn) rNinSt := op_notin_str
theorem cr_strI : CallR X (.type "str") rStrI := call_str_int
theorem cr_intT : CallR X (.type "int") rIntT := call_int_str
end
end L2
namespace DL
open PySem L2 PySem.Spec
section
variable {K : PySem.W.Frag} {es : List Sl} {te ta tb : TE} {i j z : Str} {n : Int} {b : Bool}
theorem ev_scat (ha : Ev K ta es (.str i)) (hb : Ev K tb es (.str j)) (h : scat i j = some z) : Ev K (tOp rAddS ta tb) es (.str z) := ev_op ha hb fun F G H σ es x y s rx ry Q q => by
  obtain ⟨hl, rfl⟩ := ite_some h
  cases rx
  cases ry
  exact ⟨_, _, rfl, rfl, by rw [sizeLine_eq]; exact Nat.le_trans hl (by decide), q _ G H s (Same.refl _) (.str _)⟩
theorem ev_sixS (ha : Ev K ta es (.str i)) (hb : Ev K tb es (.int n)) (h : sixC i n = some z) : Ev K (tOp rIxS ta tb) es (.str z) := ev_op ha hb fun F G H σ es x y s rx ry Q q => by
  obtain ⟨hl, e⟩ := ite_some' h
  cases rx
  cases ry
  cases hc : atI i.cps.toList n with
  | none => rw [hc] at e; cases e
  | some c =>
    rw [hc] at e
    cases e
    exact ⟨i, n, c, rfl, rfl, by rw [sizeLine_eq]; exact Nat.le_trans hl (by decide), hc, q _ G H s (Same.refl _) (.str _)⟩
theorem ev_inS (ha : Ev K ta es (.str i)) (hb : Ev K tb es (.str j)) (h : inS i j = some b) : Ev K (tOp rInSt ta tb) es (.bl b) := ev_op ha hb fun F G H σ es x y s rx ry Q q => by
  cases h
  cases rx
  cases ry
  exact ⟨_, _, rfl, rfl, q _ G H s (Same.refl _) (.bl _)⟩
theorem ev_ninS (ha : Ev K ta es (.str i)) (hb : Ev K tb es (.str j)) (h : inS i j = some b) : Ev K (tOp rNinSt ta tb) es (.bl (!b)) := ev_op ha hb fun F G H σ es x y s rx ry Q q => by
  cases h
  cases rx
  cases ry
  exact ⟨_, _, rfl, rfl, q _ G H s (Same.refl _) (.bl _)⟩
theorem ev_strI {t : TA} (h : EvA K t es [.int n]) (e : strC n = some z) : Ev K (tCB rStrI t) es (.str z) := ev_cb h fun F G H σ es xs s rx Q q => by
  obtain ⟨hl, rfl⟩ := ite_some e
  cases rx with
  | cons rx rr =>
    cases rr
    cases rx
    exact ⟨n, rfl, hl, q _ G H s (Same.refl _) (.str _)⟩
theorem ev_intT {t : TA} (h : EvA K t es [.str i]) (e : intC i = some n) : Ev K (tCB rIntT t) es (.int n) := ev_cb h fun F G H σ es xs s rx Q q => by
  obtain ⟨hl, e⟩ := ite_some' e
  cases rx with
  | cons rx rr =>
    cases rr
    cases rx
    exact ⟨i, n, rfl, e, hl, q _ G H s (Same.refl _) (.int _)⟩
theorem ei_str (h : Ev K te es (.str z)) : EvI K (iStr te) es ((strL z).map Dt.str) := fun F G H σ s R q => h F G H σ s _ fun v G1 H1 s1 g1 r1 => by
  cases r1
  refine ⟨z, rfl, q _ G1 H1 s1 g1 fun i F2 G2 H2 σ2 es2 g2 s2 => ⟨fun d e => ?_, fun e => ?_⟩⟩
  · unfold strL at e
    rw [List.map_map, List.getElem?_map] at e
    cases hc : z.cps.toList[i]? with
    | none => rw [hc] at e; cases e
    | some c =>
      rw [hc] at e
      cases e
      have hi := (List.getElem?_eq_some_iff.mp hc).1
      refine ⟨by show i < z.cps.size; simpa using hi, fun x H3 y => ?_⟩
      obtain ⟨e1, c', hc', ex⟩ := y
      subst e1 ex
      have : z.cps[i]? = some c := by simpa using hc
      rw [this] at hc'
      cases hc'
      exact ⟨G2, s2, Same.refl _, .str _⟩
  · show z.cps.size ≤ i
    have e : ((strL z).map Dt.str).length ≤ i := e
    unfold strL at e
    simpa using e
end
end DL
namespace DL
open PySem L2 PySem.Spec
theorem ev_scut {K : PySem.W.Frag} {es : List Sl} {te : TE} {tl th : TO} {lo hi : Option Int} {z y : Str} (ha : Ev K te es (.str z)) (hl : EvO K tl es lo) (hh : EvO K th es hi) (h : scut z lo hi = some y) : Ev K (tSl rSlS te tl th) es (.str y) := fun F G H σ s Q q =>
  ha F G H σ s _ fun x G1 H1 s1 g1 r1 => hl F G1 H1 σ s1 _ fun G2 H2 s2 g2 => hh F G2 H2 σ s2 _ fun G3 H3 s3 g3 => by
    obtain ⟨hz, rfl⟩ := ite_some h
    cases r1
    exact ⟨z, rfl, by rw [sizeLine_eq]; exact Nat.le_trans hz (by decide), q _ G3 H3 s3 (g1.trans (g2.trans g3)) (.str _)⟩
end DL

/-! Dl22: C(.., k = v, ..) that may raise; own lists of mixed items -/
namespace L2
open PySem PySem.Spec PyProof.Rows
/-- C(.., k = v, ..), an exception told by the slots -/
def tMakeKS (C : Addr) (n m : Nat) (sp : Sp) (gV : List V → List V → List V) (E : St → XK) (t tk : TA) : TE := fun σ H Q => t σ H fun vs H1 => tk σ H1 fun zs H2 => vs.length = n ∧ zs.length = m ∧ ∀ x dx, H2 x = none → H2 dx = none → dx ≠ x →
  sp (gV (.ref x :: vs) zs) (upd (upd H2 dx (.own x)) x (.ins C dx [])) (fun v H3 => v = .non ∧ Q (.ref x) H3) (E σ)
section
variable {X : Cx} {CX : CXT} {k n : Nat} {f C : Addr} {fd : FuncData} {ps ks : List Str} {sp : Sp} {E : St → XK} {x : Str} {p pos : Pos} {e : Expr} {es : List Expr} {kws : List Keyword} {t tk : TA} {g : List Value → List Value → List Value} {gV : List V → List V → List V}
theorem run_makeKS {pins : List (Addr × Obj)} {σ : St} {H : Hp} {s : Shared} {Q : VK} {us ws : List Value} {vs zs : List V} (M : Mk X.K C f) (F : FnOk X.prog X.w X.K X.mg X.base CX k f fd ps sp) (hr : Room (k + 1) X.A) (hb : KBn X.K fd ps (n + 1) ks g gV) (hx : PassesAt CX X σ (E σ))
    (I : Inv X pins σ H s) (r : Vals vs us) (rz : Vals zs ws) (l1 : vs.length = n) (l2 : zs.length = ks.length)
    (h : ∀ x dx, H x = none → H dx = none → dx ≠ x → sp (gV (.ref x :: vs) zs) (upd (upd H dx (.own x)) x (.ins C dx [])) (fun v H2 => v = .non ∧ Q (.ref x) H2) (E σ)) : wpAny (model X.prog X.w) X.A (call (.ref C) us (ks.zip ws)) (EP X pins σ Q) X.xe s := by
  have hq := h (s.heap.objs.size + 1) s.heap.objs.size (I.hok.fresh (Nat.le_succ _)) (I.hok.fresh (Nat.le_refl _)) (Nat.ne_of_lt (Nat.lt_succ_self _))
  have I2 := Inv.made (C := C) I
  have q1 : Vals (V.ref (s.heap.objs.size + 1) :: vs) (Value.ref (s.heap.objs.size + 1) :: us) := .cons rfl r
  have n1 : (Value.ref (s.heap.objs.size + 1) :: us).length = n + 1 := by rw [List.length_cons, ← r.length, l1]
  have bd := hb.to _ (Value.ref (s.heap.objs.size + 1) :: us) ws I2.kIn n1 (rz.length.symm.trans l2)
  have body := F.run _ X.stack _ _ ⟨Value.ref (s.heap.objs.size + 1) :: us, ks.zip ws⟩ (g (Value.ref (s.heap.objs.size + 1) :: us) ws) _ _ (E σ) (hr.make C us (ks.zip ws)) (I2.env0.make C us (ks.zip ws)) bd (hb.rel q1 rz) hq
  refine wpAny_call (make_map (f := f) I.kIn M.makes M.init (beq_iff_eq.mp M.fn) (codeAny_mono body fun r s' hq' => ?_))
  match r, hq' with
  | .error e, hq' => exact hx pins _ _ e s' I2 hq'
  | .ok (.ret u), hq' =>
    obtain ⟨v, H', I3, rv, ev, q3⟩ := I2.after hq'
    subst ev
    exact ⟨rv, ⟨V.ref (s.heap.objs.size + 1), H', I3, rfl, q3⟩⟩
  | .ok .next, hq' => exact False.elim hq'
  | .ok .brk, hq' => exact False.elim hq'
  | .ok .cont, hq' => exact False.elim hq'
theorem pe_makeKS (M : Mk X.K C f) (F : FnOk X.prog X.w X.K X.mg X.base CX k f fd ps sp) (hr : Room (k + 1) X.A) (hg : Gl X x) (hm : X.mg x = some (.ref C)) (hb : KBn X.K fd ps (n + 1) ks g gV) (hx : ∀ σ, PassesAt CX X σ (E σ)) (ha : PA X (e :: es) t) (hkw : PK X kws tk)
    (hall : (backToKw pos (keywordEach kws X.env)).all (·.1.isSome) = true := by rfl) (hks : (backToKw pos (keywordEach kws X.env)).filterMap (·.1) = ks := by rfl) (hdb : (x == ("__debug__" : Str)) = false := by decide)
    (he : starEach (e :: es) X.env = (false, eval e X.env) :: starEach es X.env := by rfl) (hpl : ((backTo pos (starEach (e :: es) X.env)).any (·.1) || (backToKw pos (keywordEach kws X.env)).any (·.1.isNone)) = false := by rfl) :
    PE X (.Call (.Name x p) (e :: es) kws pos) (tMakeKS C n ks.length sp gV E t tk) := by
  refine ⟨fun pins s σ H Q I h => ?_⟩
  refine wpAny_Call_Name_kw (ld_glob I hg hm ?_ hdb)
  refine PySem.W.callWith_KW (h₀ := X.base) I.ok.mod.kin M.kp hall (thn (ha.run pos pins s σ H _ I h) fun us s1 ⟨vs, H1, I1, r, q⟩ => ?_) hpl he
  refine thn (hkw.run pos pins s1 σ H1 _ I1 q) fun ws s2 ⟨zs, H2, I2, rz, l1, l2, q2⟩ => ⟨I2.kIn, ?_⟩
  rw [hks]
  exact run_makeKS M F hr hb (hx σ) I2 r rz l1 l2 q2
end
end L2
namespace DL
open PySem L2
section
variable {K : PySem.W.Frag} {es es' : List Sl} {ta tk tb te : TE} {t tq : TA} {c : Addr} {f : Str} {d : Dt}
theorem makeKS_eq {C : Addr} {n m : Nat} {sp : Sp} {fV gV : List V → List V → List V} {E : L2.St → XK} (hg : ∀ x vs zs, vs.length = n → zs.length = m → gV (.ref x :: vs) zs = .ref x :: fV vs zs) : tMakeS C sp E (tPermA n m fV t tq) = tMakeKS C n m sp gV E t tq := by
  funext σ H Q
  unfold tMakeS tMakeKS tPermA
  refine congrArg (t σ H) (funext fun vs => funext fun H1 => congrArg (tq σ H1) (funext fun zs => funext fun H2 => propext ?_))
  constructor
  · rintro ⟨a, b, k⟩
    refine ⟨a, b, fun x dx h1 h2 h3 => ?_⟩
    have := k x dx h1 h2 h3
    rw [hg x vs zs a b]
    exact this
  · rintro ⟨a, b, k⟩
    refine ⟨a, b, fun x dx h1 h2 h3 => ?_⟩
    have := k x dx h1 h2 h3
    rw [hg x vs zs a b] at this
    exact this
theorem ev_makeKX {P : List Dt → List (Str × Dt) → Prop} {sp2 : Sp} {C : Addr} {fs : List (Str × Dt)} {n m : Nat} {fV gV : List V → List V → List V} {ds ks ds' : List Dt} {E : L2.St → XK} (ha : EvA K t es ds) (hk : EvA K tq es ks) (hn : ds.length = n) (hm : ks.length = m)
    (hg : ∀ x vs zs, vs.length = n → zs.length = m → gV (.ref x :: vs) zs = .ref x :: fV vs zs) (hf : ∀ G vs zs, Reps K G vs ds → Reps K G zs ks → Reps K G (fV vs zs) ds') (hP : P ds' fs) : Ev K (tMakeKS C n m (spOr (FSpec K (RI C P)) sp2) gV E t tq) es (.obj C fs) := by
  rw [← makeKS_eq hg]
  exact ev_makeX (ea_perm ha hk hn hm hf) hP
theorem xv_makeK {R : List Dt → Addr → Str → Prop} {a : Sp} {C : Addr} {n m : Nat} {fV gV : List V → List V → List V} {ds ks ds' : List Dt} (ha : EvA K t es ds) (hk : EvA K tq es ks) (hn : ds.length = n) (hm : ks.length = m)
    (hg : ∀ x vs zs, vs.length = n → zs.length = m → gV (.ref x :: vs) zs = .ref x :: fV vs zs) (hf : ∀ G vs zs, Reps K G vs ds → Reps K G zs ks → Reps K G (fV vs zs) ds') (hP : R ds' c f) : XvE K (fun E => tMakeKS C n m (spOr a (FSpecX K (XI C R))) gV E t tq) es c f := by
  have h := xv_make (a := a) (C := C) (ea_perm ha hk hn hm hf) hP
  have e : (fun E => tMakeS C (spOr a (FSpecX K (XI C R))) E (tPermA n m fV t tq)) = fun E => tMakeKS C n m (spOr a (FSpecX K (XI C R))) gV E t tq := funext fun E => makeKS_eq hg
  rw [e] at h
  exact h
/-! ### own lists of mixed items -/
variable {ρ : Type} {tz : TS} {m : Option ρ} {oc : ρ → Res}
theorem reps_set {G : Hp} {v : V} {d : Dt} (r : Rep K G v d) : ∀ {vs : List V} {ds : List Dt} (j : Nat), Reps K G vs ds → Reps K G (vs.set j v) (ds.set j d)
  | _, _, _, .nil => .nil
  | _, _, 0, .cons a b => .cons r b
  | _, _, j + 1, .cons a b => .cons a (reps_set r j b)
theorem sm_setD {ds ds' : List Dt} {i : Nat} {n : Int} {a : Option Addr} (hi : es[i]? = some (.own a ds)) (h : Ev K te es d) (hn : Ev K tb es (.int n)) (hy : ∃ j, ixN ds.length n = some j ∧ ds' = ds.set j d) (he : es.set i (.own a ds') = es') (k : SM K tz es' m oc) :
    SM K (tSeq (tAsg te (gSub (tVar i) tb rSetL)) tz) es m oc := fun r e F G H σ D s q => by
  obtain ⟨j, hj, rfl⟩ := hy
  refine h F G H σ s _ fun v G1 H1 s1 g1 r1 => ?_
  obtain ⟨o, ho, p, vs, eo, g, f, hp, rr, an⟩ := s1.sl i _ hi
  subst eo
  refine ⟨.ref p, ho, ?_⟩
  refine hn F G1 H1 σ s1 _ fun y G2 H2 s2 g2 r2 => ?_
  cases r2
  obtain ⟨o, ho', p', vs', eo, g', f', hp', rr', an'⟩ := s2.sl i _ hi
  subst eo
  rw [ho] at ho'
  cases ho'
  have hlen := rr'.length
  refine ⟨p, vs', n, j, rfl, rfl, hp', by rw [hlen]; exact hj, ?_⟩
  exact k r e F G2 _ σ D (he ▸ s2.write hi rfl rfl ho ⟨p, vs'.set j v, rfl, g', f', upd_same, reps_set (r1.mono g2) j rr', an'⟩ g' f') (q.up (g1.trans g2))
/-- one of several places -/
def pickI {α : Type} (n : Int) : List (Int × α) → Option α
  | [] => none
  | (i, x) :: r => if n = i then some x else pickI n r
def PickOk {α : Type} (ds : List Dt) (d : Dt) (em : α → List Dt) : List (Int × α) → Prop
  | [] => True
  | (i, x) :: r => (∃ j, ixN ds.length i = some j ∧ em x = ds.set j d) ∧ PickOk ds d em r
theorem pick_ok {α : Type} {ds : List Dt} {d : Dt} {em : α → List Dt} {n : Int} {y : α} : ∀ {l : List (Int × α)}, pickI n l = some y → PickOk ds d em l → ∃ j, ixN ds.length n = some j ∧ em y = ds.set j d
  | [], h, _ => by cases h
  | (i, x) :: r, h, k => by
    unfold pickI at h
    by_cases q : n = i
    · rw [if_pos q] at h
      cases h
      rw [q]
      exact k.1
    · rw [if_neg q] at h
      exact pick_ok h k.2
end
abbrev dF10 {a b c d e f g h i j : Type} (e1 : a → Dt) (e2 : b → Dt) (e3 : c → Dt) (e4 : d → Dt) (e5 : e → Dt) (e6 : f → Dt) (e7 : g → Dt) (e8 : h → Dt) (e9 : i → Dt) (e10 : j → Dt) (x : a × b × c × d × e × f × g × h × i × j) : Dt :=
  .lst [e1 x.1, e2 x.2.1, e3 x.2.2.1, e4 x.2.2.2.1, e5 x.2.2.2.2.1, e6 x.2.2.2.2.2.1, e7 x.2.2.2.2.2.2.1, e8 x.2.2.2.2.2.2.2.1, e9 x.2.2.2.2.2.2.2.2.1, e10 x.2.2.2.2.2.2.2.2.2]
end DL
namespace DL
open PySem L2
/-- isinstance of an own object against a built-in class -/
theorem ev_isiB {K : PySem.W.Frag} {es : List Sl} {ta : TE} {C : Addr} {fs : List (Str × Dt)} {n : String} {b : Bool} (cl : Cls K C) (h1 : PySem.W.findIn K (.ref C) "__class__" = some (some (.builtin "object.__class__"))) (h2 : PySem.W.specialIn K (.builtin "object.__class__") "__get__" = some (some (.builtin "getset_descriptor.__get__")))
    (h3 : PySem.W.takesIn K (.builtin "object.__class__") = some true) (h4 : PySem.W.mroIn K C (.type "object") = some true) (k : PySem.W.kitOne K (.ref C) (.type n) = some b) (ha : Ev K ta es (.obj C fs)) : Ev K (tCB (rIsi K) (tCons ta (tCons (tC (.ty n)) tNil))) es (.bl b) := fun F G H σ s Q q =>
  ha F G H σ s _ fun x G1 H1 s1 g1 r1 => by
    cases r1 with
    | obj h r => exact ⟨_, _, _, _, b, rfl, .ty n, .base (.ins (s1.g _ _ h) cl h1 h2 h3 h4), k, q _ G1 H1 s1 g1 (.bl _)⟩
end DL

/-! Dl23: own lists lent to a call whose result holds no list; tries that set variables -/
namespace DL
open PySem L2
theorem cr_tupSK {X : Cx} {K : PySem.W.Frag} (h : X.K = K) : CallR X (.type "tuple") (rTupS K) := h ▸ cr_tupS
end DL
namespace DL
open PySem L2
abbrev dF9 {a b c d e f g h i : Type} (e1 : a → Dt) (e2 : b → Dt) (e3 : c → Dt) (e4 : d → Dt) (e5 : e → Dt) (e6 : f → Dt) (e7 : g → Dt) (e8 : h → Dt) (e9 : i → Dt) (x : a × b × c × d × e × f × g × h × i) : Dt :=
  .lst [e1 x.1, e2 x.2.1, e3 x.2.2.1, e4 x.2.2.2.1, e5 x.2.2.2.2.1, e6 x.2.2.2.2.2.1, e7 x.2.2.2.2.2.2.1, e8 x.2.2.2.2.2.2.2.1, e9 x.2.2.2.2.2.2.2.2]
/-! ### data without lists -/
mutual
inductive LF : Dt → Prop
  | non : LF .non
  | bl (b : Bool) : LF (.bl b)
  | int (i : Int) : LF (.int i)
  | str (s : Str) : LF (.str s)
  | ty (n : String) : LF (.ty n)
  | tup {ds : List Dt} : LFs ds → LF (.tup ds)
  | obj {C : Addr} {fs : List (Str × Dt)} : LFf fs → LF (.obj C fs)
inductive LFs : List Dt → Prop
  | nil : LFs []
  | cons {d : Dt} {ds : List Dt} : LF d → LFs ds → LFs (d :: ds)
inductive LFf : List (Str × Dt) → Prop
  | nil : LFf []
  | cons {f : Str} {d : Dt} {ds : List (Str × Dt)} : LF d → LFf ds → LFf ((f, d) :: ds)
end
theorem LFs.map {α : Type} {em : α → Dt} (h : ∀ x, LF (em x)) : ∀ xs : List α, LFs (xs.map em)
  | [] => .nil
  | x :: xs => .cons (h x) (LFs.map h xs)
theorem lf_sum {α β : Type} {e1 : α → Dt} {e2 : β → Dt} (h1 : ∀ x, LF (e1 x)) (h2 : ∀ x, LF (e2 x)) : ∀ x, LF (dS e1 e2 x)
  | .inl a => h1 a
  | .inr b => h2 b
theorem lf_opt {α : Type} {e : α → Dt} (h : ∀ x, LF (e x)) : ∀ x, LF (dO e x)
  | none => .non
  | some a => h a
/-- G1 without the lists that G has not -/
def noL (G G1 : Hp) : Hp := fun a => match G1 a with
  | some (.lst _) => G a
  | x => x
section
variable {K : PySem.W.Frag} {F G H G1 H1 : Hp} {σ : L2.St} {es es' : List Sl}
theorem noL_of {a : Addr} {o : HO} (h : G1 a = some o) (n : ∀ xs, o ≠ .lst xs) : noL G G1 a = some o := by
  unfold noL
  rw [h]
  cases o with
  | lst xs => exact (n xs rfl).elim
  | _ => rfl
theorem noL_lst {a : Addr} {xs : List V} (h : G1 a = some (.lst xs)) : noL G G1 a = G a := by
  unfold noL
  rw [h]
theorem noL_sub (g : Same G H1) (g1 : Same G1 H1) : Same (noL G G1) H1 := fun a o e => by
  unfold noL at e
  split at e
  · exact g a o e
  · exact g1 a o e
theorem noL_sup (g : Same G G1) : Same G (noL G G1) := fun a o e => by
  unfold noL
  have := g a o e
  rw [this]
  cases o with
  | lst xs => exact e
  | _ => rfl
theorem sqT_noL {a : Addr} {xs : List V} (h : SqT K G1 a xs) : SqT K (noL G G1) a xs := by
  rcases h with (h | ⟨o, h⟩) | h
  · exact .inl (.inl (noL_of h fun _ z => by cases z))
  · exact .inl (.inr ⟨o, noL_of h fun _ z => by cases z⟩)
  · exact .inr h
theorem LF.t {ds : List Dt} (h : LF (.tup ds)) : LFs ds := by cases h with | tup h => exact h
theorem LF.o {C : Addr} {fs : List (Str × Dt)} (h : LF (.obj C fs)) : LFf fs := by cases h with | obj h => exact h
theorem LF.l {ds : List Dt} (h : LF (.lst ds)) : False := by cases h
theorem LFs.h {d : Dt} {ds : List Dt} (h : LFs (d :: ds)) : LF d := by cases h with | cons a b => exact a
theorem LFs.t {d : Dt} {ds : List Dt} (h : LFs (d :: ds)) : LFs ds := by cases h with | cons a b => exact b
theorem LFf.h {f : Str} {d : Dt} {ds : List (Str × Dt)} (h : LFf ((f, d) :: ds)) : LF d := by cases h with | cons a b => exact a
theorem LFf.t {f : Str} {d : Dt} {ds : List (Str × Dt)} (h : LFf ((f, d) :: ds)) : LFf ds := by cases h with | cons a b => exact b
mutual
theorem rep_noL : ∀ {v : V} {d : Dt}, Rep K G1 v d → LF d → Rep K (DL.noL G G1) v d
  | _, _, .non, _ => .non
  | _, _, .bl b, _ => .bl b
  | _, _, .int i, _ => .int i
  | _, _, .str s, _ => .str s
  | _, _, .ty n, _ => .ty n
  | _, _, .tup h r, l => .tup (sqT_noL h) (reps_noL r l.t)
  | _, _, .lst _ _, l => l.l.elim
  | _, _, .obj h r, l => .obj (noL_of h fun _ z => by cases z) (repF_noL r l.o)
theorem reps_noL : ∀ {vs : List V} {ds : List Dt}, Reps K G1 vs ds → LFs ds → Reps K (DL.noL G G1) vs ds
  | _, _, .nil, _ => .nil
  | _, _, .cons h r, l => .cons (rep_noL h l.h) (reps_noL r l.t)
theorem repF_noL : ∀ {vs : List (Str × V)} {ds : List (Str × Dt)}, RepF K G1 vs ds → LFf ds → RepF K (DL.noL G G1) vs ds
  | _, _, .nil, _ => .nil
  | _, _, .cons h r, l => .cons (rep_noL h l.h) (repF_noL r l.t)
end
def Sl.isObo : Sl → Bool
  | .obo _ _ _ => true
  | _ => false
def noObo : List Sl → Bool
  | [] => true
  | t :: ts => !t.isObo && noObo ts
theorem noObo_get : ∀ {es : List Sl} {i : Nat} {t : Sl}, noObo es = true → es[i]? = some t → t.isObo = false
  | [], _, _, _, e => by simp at e
  | a :: as, 0, t, h, e => by
    simp at e
    subst e
    unfold noObo at h
    rw [Bool.and_eq_true] at h
    simpa using h.1
  | a :: as, i + 1, t, h, e => by
    unfold noObo at h
    rw [Bool.and_eq_true] at h
    exact noObo_get (i := i) h.2 (by simpa using e)
variable {te : TE} {d : Dt}
/-- own lists that a call reads, whose result holds no list -/
theorem ev_lend (b : Brw es es') (no : noObo es = true) (h : Ev K te es' d) (hd : LF d) : Ev K te es d := fun F G H σ s Q q =>
  h F _ H σ (s.borrow b) _ fun v G1 H1 s1 g1 r1 => by
    have sm : Same H H1 := same_all s s1.f s1.g g1
    have gg : Same G G1 := fun a o e => g1 a o (same_remF s a o e)
    refine q v (DL.noL G G1) H1 ⟨s1.f, noL_sub (s.g.trans sm) s1.g, fun a o e => ?_, s.len, fun i t e => ?_, s.ow⟩ (noL_sup gg) (rep_noL r1 hd)
    · have := s1.dj a o e
      unfold DL.noL
      rw [this]
    · obtain ⟨o, ho, k⟩ := s.sl i t e
      refine ⟨o, ho, ?_⟩
      cases t with
      | un => trivial
      | d x =>
        obtain ⟨v, ev, rv⟩ := k
        exact ⟨v, ev, rv.mono (noL_sup gg)⟩
      | own p xs =>
        obtain ⟨p', vs, eo, gp, fp, hp, rr, an⟩ := k
        have : G1 p' = some (.lst vs) := g1 _ _ (by rw [rem_of fp]; exact hp)
        exact ⟨p', vs, eo, by rw [noL_lst this]; exact gp, fp, sm _ _ hp, rr.mono (noL_sup gg), an⟩
      | obo p C fs => have := noObo_get no e; cases this
end
/-! ### tries that set variables -/
section
variable {K : PySem.W.Frag} {es : List Sl} {tb : WX → TS} {c C1 : Addr} {i : Nat} {x : Option Str} {S R : Type} {env : S → List Sl} {ed : R → Dt} {ee : R → List Sl} {mF : Option (Fl S R)}
theorem lr_nxS (he2 : ∀ s, (env s)[i]? = some .un) : ∀ (r : Fl S R) fs, loopRes env ed ee r = .nx fs → fs[i]? = some .un := fun r fs h => by
  cases r with
  | nx s => cases h; exact he2 s
  | bk s => cases h; exact he2 s
  | rt r => cases h
theorem lr_noS : ∀ (r : Fl S R), (∃ fs, loopRes env ed ee r = .nx fs) ∨ ∃ d fs, loopRes env ed ee r = .rt d fs := fun r => by
  cases r with
  | nx s => exact .inl ⟨_, rfl⟩
  | bk s => exact .inl ⟨_, rfl⟩
  | rt r => exact .inr ⟨_, _, rfl⟩
theorem sm_tryN1S {ts : Addr → Value → Option Addr → TS} {hm : Str → Option (Fl S R)} (he : PySem.W.exmOne K (.ref c) (.ref C1) = some true) (hu : es[i]? = some .un) (he2 : ∀ s, (env s)[i]? = some .un)
    (hx : ∀ W, SMY K (tb W) (WE W) es es c x) (hn : x = none → ∀ W, SM K (tb W) es mF (loopRes env ed ee)) (hh : ∀ a dd f, SMH K a dd i f (ts a (.ref c) (some dd)) es (hm f) (loopRes env ed ee)) :
    SM K (fun D σ H => tb (wN K D [(.ref C1, i, ts)]) D σ H) es (tryX x hm mF) (loopRes env ed ee) := fun r e F G H σ D s q => by
  cases x with
  | none => exact hn rfl _ r e F G H σ D s q
  | some f =>
    refine hx _ f rfl F G H σ D s fun dd G' H' σ' s1 g1 h1 f1 n1 => ⟨true, he, fun _ a ha => ?_, fun z => by cases z⟩
    exact caught hu hh (lr_nxS he2) lr_noS e s1 g1 h1 f1 n1 q
end
end DL

/-! Dl24: enumerate over texts, enumerate with a start; split, partition, extend -/
namespace L2
open PySem PySem.Spec PyProof.Rows
/-- what a text's iterator draws; beyond the end nothing -/
theorem draws_text {prog : Program} {w : World} {A : Around} (hh : A.handled = none) (it : Addr) (x : Str) (t : Tok) (i : Nat) (hi : x.cps.size ≤ i) : Draws prog w A it [it] 0 (fun _ _ => False) (fun _ h => h.IsStrIter it (strIterType x) x t i) where
  live := fun _ _ st => let ⟨o, ho, _⟩ := st; ⟨o, ho⟩
  frame := fun _ _ _ st hk => let ⟨o, ho, r⟩ := st; ⟨o, hk it (by simp) o ho, r⟩
  item := fun i s Q E hi st hQ => absurd hi (Nat.not_lt_zero _)
  done := fun s Q E st hE => by
    have hx : x.cps[i]? = none := Array.getElem?_eq_none hi
    unfold strIterType at st
    by_cases ha : (x.cps.all (· < 128)) = true
    · rw [if_pos ha] at st
      exact wpAny_nextOf_ascii_end hh st hx hE
    · rw [if_neg ha] at st
      exact wpAny_nextOf_wide_end hh st hx hE
theorem draws_list {prog : Program} {w : World} {A : Around} (hh : A.handled = none) (it l : Addr) (items : Array Value) (i : Nat) (hi : items.size ≤ i) : Draws prog w A it [it, l] 0 (fun _ _ => False) (fun _ h => h.IsListIter it l i ∧ h.IsList l items) where
  live := fun _ _ st => let ⟨o, ho, _⟩ := st.1; ⟨o, ho⟩
  frame := fun _ _ _ st hk => ⟨st.1.at fun o e => hk it (by simp) o e, st.2.at fun o e => hk l (by simp) o e⟩
  item := fun i s Q E hi st hQ => absurd hi (Nat.not_lt_zero _)
  done := fun s Q E st hE => wpAny_nextOf_list_end hh st.1 st.2 (Array.getElem?_eq_none hi) hE
/-- the list at a from the count k0 -/
def IteK (K : PySem.W.Frag) (a : Addr) (k0 : Int) : It :=
  ⟨fun i H => ∃ (xs : List V) (x : V), SqL K H a xs ∧ xs[i]? = some x, fun i H v H' => ∃ T x, v = .ref T ∧ H T = none ∧ H' = upd H T (.tup [.int (k0 + (i : Nat)), x]) ∧ ∀ xs, SqL K H a xs → xs[i]? = some x, fun i H => ∃ xs : List V, SqL K H a xs ∧ xs.length ≤ i⟩
/-- the signs of a text with their places -/
def ItsE (x : Str) : It := ⟨fun i _ => i < x.cps.size, fun i H v H' => ∃ T c, v = .ref T ∧ H T = none ∧ H' = upd H T (.tup [.int (i : Nat), .str ⟨#[c]⟩]) ∧ x.cps[i]? = some c, fun i _ => x.cps.size ≤ i⟩
theorem turn_enumS {P : Program} {w : World} {K : PySem.W.Frag} {elts : List Expr} {kk : Nat} {tpos : Pos} (x : Str) (t : Tok) (e it : Addr) :
    Turn P w K (.Tuple elts kk tpos) (ItsE x) [e, it] e (fun i h => (∃ old, IsEnum h e it ((i : Nat) : Int) old) ∧ h.IsStrIter it (strIterType x) x t i ∧ e ≠ it) where
  mem := by simp
  obj := fun i h st b hb => by
    obtain ⟨⟨old, he⟩, ⟨o, ho, hc, hd⟩, _⟩ := st
    have e' : b = e ∨ b = it := by simpa using hb
    rcases e' with z | z
    · rw [z]; exact ⟨_, he, fun v q => nomatch q⟩
    · rw [z]; exact ⟨o, ho, fun v q => by rw [hd] at q; cases q⟩
  keep := fun i h h' st k => let ⟨⟨old, he⟩, hi, hne⟩ := st; ⟨⟨old, k e (by simp) _ he⟩, (let ⟨o, ho, r⟩ := hi; ⟨o, k it (by simp) o ho, r⟩), hne⟩
  item := by
    intro X hP hw hK hc i pins s σ H E I hf st hg
    subst hP hw hK
    obtain ⟨⟨old, he⟩, hit, hne⟩ := st
    have hel : e < s.heap.objs.size := Heap.lt_size he
    have hil : it < s.heap.objs.size := by obtain ⟨_, q, _⟩ := hit; exact Heap.lt_size q
    refine wpAny_pyNext_enum_itemC (Draws.text (show X.A.in1.handled = none from I.ok.hd hc) it x t) he hit hg hne (by simpa using hne) fun x1 h' tk hP1 ho hit' hT hsz hk => ?_
    obtain ⟨c, u, hcx, rfl⟩ := hP1
    refine ⟨_, rfl, wpAny_letOwnedTupleGo_enum (s := { s with heap := h', toks := tk + 1 }) ho fun h'' he' sb => ?_⟩
    have hT2 : h''.get? s.heap.objs.size = some { cls := .type "tuple", data := .seq #[.int i tk, .str ⟨#[c]⟩ u] } := (sb.2 _ (Nat.ne_of_gt hel)).trans hT
    have new : ObjOk X.prog X.w (upd H s.heap.objs.size (.tup [.int (i : Nat), .str ⟨#[c]⟩])) h'' s.heap.objs.size (.tup [.int (i : Nat), .str ⟨#[c]⟩]) :=
      ⟨by show 2 ≤ sizeLine; decide, [.int i tk, .str ⟨#[c]⟩ u], .cons ⟨_, rfl⟩ (.cons ⟨_, rfl⟩ .nil), ⟨_, hT2, rfl, _, rfl⟩⟩
    have I1 : Inv X pins σ (upd H s.heap.objs.size (.tup [.int (i : Nat), .str ⟨#[c]⟩])) { s with heap := h'', toks := tk + 1 } :=
      I.turnedNew (ch := [e, it]) (fun b ob hb q => (sb.2 b (fun z => hb (by simp [z]))).trans (hk b ob (fun z => hb (by simp [z])) (fun z => hb (by simp [z])) q)) hf (Nat.le_refl _) new
    refine ⟨.ref s.heap.objs.size, _, I1, rfl, ⟨_, c, rfl, I.hok.fresh (Nat.le_refl _), rfl, hcx⟩, ⟨⟨.str ⟨#[c]⟩ u, ?_⟩, (let ⟨o, ho, r⟩ := hit'; ⟨o, (sb.2 it (Ne.symm hne)).trans ho, r⟩), hne⟩, fun b hb => ?_⟩
    · have e1 : ((i + 1 : Nat) : Int) = (i : Int) + 1 := by omega
      rw [e1]; exact he'
    · have hb' : b < s.heap.objs.size := by
        have e' : b = e ∨ b = it := by simpa using hb
        rcases e' with z | z
        · rw [z]; exact hel
        · rw [z]; exact hil
      rw [upd_ne (Nat.ne_of_lt hb')]
      exact (hf b hb).1
  done := by
    intro X hP hw hK hc i pins s σ H E I hf st hg
    subst hP hw hK
    obtain ⟨⟨old, he⟩, hit, hne⟩ := st
    obtain ⟨f0, f1, f2, f3, f4, f5⟩ := hf it (by simp)
    exact wpAny_pyNext_enum_endD (draws_text (show X.A.in1.handled = none from I.ok.hd hc) it x t i hg) he hit fun h' eb => ⟨rfl, I.turned (t' := s.toks) (fun b o hb q => eb b o hb q) f0 f1 f3 f4 f5⟩
  self := fun A i s Q E st h => let ⟨⟨_, he⟩, _⟩ := st; wpAny_pyIter_enum he h
theorem turn_enumK {P : Program} {w : World} {K : PySem.W.Frag} {elts : List Expr} {kk : Nat} {tpos : Pos} (k0 : Int) (a e it : Addr) (hai : a ≠ it) (hae : a ≠ e) :
    Turn P w K (.Tuple elts kk tpos) (IteK K a k0) [e, it] e (fun i h => (∃ old, IsEnum h e it (k0 + ((i : Nat) : Int)) old) ∧ h.IsListIter it a i ∧ e ≠ it) where
  mem := by simp
  obj := fun i h st b hb => by
    obtain ⟨⟨old, he⟩, ⟨o, ho, hc, hd⟩, _⟩ := st
    have e' : b = e ∨ b = it := by simpa using hb
    rcases e' with z | z
    · rw [z]; exact ⟨_, he, fun v q => nomatch q⟩
    · rw [z]; exact ⟨o, ho, fun v q => by rw [hd] at q; cases q⟩
  keep := fun i h h' st k => let ⟨⟨old, he⟩, hi, hne⟩ := st; ⟨⟨old, k e (by simp) _ he⟩, hi.at fun o q => k it (by simp) o q, hne⟩
  item := by
    intro X hP hw hK hc i pins s σ H E I hf st hg
    subst hP hw hK
    obtain ⟨⟨old, he⟩, hit, hne⟩ := st
    obtain ⟨xs, x, hq, hx⟩ := hg
    obtain ⟨its, rv, p, hz⟩ := I.list hq
    obtain ⟨u, hu, ru⟩ := rv.get hx
    have hel : e < s.heap.objs.size := Heap.lt_size he
    have hil : it < s.heap.objs.size := by obtain ⟨_, q, _⟩ := hit; exact Heap.lt_size q
    have hlt : i < its.toArray.size := by simpa using (List.getElem?_eq_some_iff.mp hu).1
    refine wpAny_pyNext_enum_itemC (Draws.list (show X.A.in1.handled = none from I.ok.hd hc) it a hai its.toArray) he ⟨hit, p.isList⟩ hlt hne (by simpa using ⟨hne, hae.symm⟩) fun x1 h' tk hP1 ho hit' hT hsz hk => ?_
    have hu1 : x1 = u := by
      have hP2 : its.toArray[i]? = some x1 := hP1
      have : its[i]? = some x1 := by simpa using hP2
      rw [hu] at this
      cases this
      rfl
    subst hu1
    refine ⟨_, rfl, wpAny_letOwnedTupleGo_enum (s := { s with heap := h', toks := tk + 1 }) ho fun h'' he' sb => ?_⟩
    have hT2 : h''.get? s.heap.objs.size = some { cls := .type "tuple", data := .seq #[.int (k0 + i) tk, x1] } := (sb.2 _ (Nat.ne_of_gt hel)).trans hT
    have new : ObjOk X.prog X.w (upd H s.heap.objs.size (.tup [.int (k0 + (i : Nat)), x])) h'' s.heap.objs.size (.tup [.int (k0 + (i : Nat)), x]) :=
      ⟨by show 2 ≤ sizeLine; decide, [.int (k0 + i) tk, x1], .cons ⟨_, rfl⟩ (.cons ru .nil), ⟨_, hT2, rfl, _, rfl⟩⟩
    have I1 : Inv X pins σ (upd H s.heap.objs.size (.tup [.int (k0 + (i : Nat)), x])) { s with heap := h'', toks := tk + 1 } :=
      I.turnedNew (ch := [e, it]) (fun b ob hb q => (sb.2 b (fun z => hb (by simp [z]))).trans (hk b ob (fun z => hb (by simp [z])) (fun z => hb (by simp [z])) q)) hf (Nat.le_refl _) new
    refine ⟨.ref s.heap.objs.size, _, I1, rfl, ⟨_, x, rfl, I.hok.fresh (Nat.le_refl _), rfl, fun ys hy => by rw [I.list_inj hy hq]; exact hx⟩, ⟨⟨x1, ?_⟩, hit'.1.at fun o q => (sb.2 it (Ne.symm hne)).trans q, hne⟩, fun b hb => ?_⟩
    · have e1 : k0 + ((i + 1 : Nat) : Int) = k0 + (i : Int) + 1 := by omega
      rw [e1]; exact he'
    · have hb' : b < s.heap.objs.size := by
        have e' : b = e ∨ b = it := by simpa using hb
        rcases e' with z | z
        · rw [z]; exact hel
        · rw [z]; exact hil
      rw [upd_ne (Nat.ne_of_lt hb')]
      exact (hf b hb).1
  done := by
    intro X hP hw hK hc i pins s σ H E I hf st hg
    subst hP hw hK
    obtain ⟨⟨old, he⟩, hit, hne⟩ := st
    obtain ⟨xs, hq, hx⟩ := hg
    obtain ⟨its, rv, p, hz⟩ := I.list hq
    obtain ⟨f0, f1, f2, f3, f4, f5⟩ := hf it (by simp)
    have hl := rv.length
    exact wpAny_pyNext_enum_endD (draws_list (show X.A.in1.handled = none from I.ok.hd hc) it a its.toArray i (by rw [List.size_toArray]; omega)) he ⟨hit, p.isList⟩ fun h' eb => ⟨rfl, I.turned (t' := s.toks) (fun b o hb q => eb b o hb q) f0 f1 f3 f4 f5⟩
  self := fun A i s Q E st h => let ⟨⟨_, he⟩, _⟩ := st; wpAny_pyIter_enum he h
section
variable {M : Model} {A : Around} {E : Value → Shared → Prop} {s : Shared} {env : Env}
theorem callWith_typeKw {pos : Pos} {T : String} {e : Expr} {rest : List Expr} {kws : List Keyword} {Q : Value → Shared → Prop}
    (h : wpAny M A (spliced (backTo pos (starEach (e :: rest) env))) (fun vs s₁ => wpAny M A (evalAll ((backToKw pos (keywordEach kws env)).map (·.2)))
      (fun kvs s₂ => wpAny M A (call (.type T) vs (((backToKw pos (keywordEach kws env)).filterMap (·.1)).zip kvs)) Q E s₂) E s₁) E s)
    (he : backTo pos (starEach (e :: rest) env) = (false, eval e env) :: backTo pos (starEach rest env) := by rfl)
    (hplain : (backTo pos (starEach (e :: rest) env)).any (·.1) = false := by rfl)
    (hall : (backToKw pos (keywordEach kws env)).all (·.1.isSome) = true := by rfl)
    (hkw : (backToKw pos (keywordEach kws env)).any (·.1.isNone) = false := by rfl) :
    wpAny M A (callWith pos (.type T) [] (backTo pos (starEach (e :: rest) env)) (backToKw pos (keywordEach kws env))) Q E s := by
  unfold callWith
  have h2 : wpAny M A (evalArgs (.type T) true (backTo pos (starEach (e :: rest) env)) (backToKw pos (keywordEach kws env))) (fun a s₁ => wpAny M A (call (.type T) ([] ++ a.pos) a.kw) Q E s₁) E s := by
    rw [he] at h ⊢
    exact evalArgs_kwB hall h
  refine wpAny_bind (wpAny_holding (wpAny_mono h2 (fun a s₁ h₁ => wpAny_bind (wpAny_standAt ?_)) fun _ _ x => x))
  simp only [hplain, hkw, Bool.or_false]
  refine wpAny_bind (wpAny_pure ?_)
  exact wpAny_bind (wpAny_mono h₁ (fun r s₂ hr => wpAny_bind (wpAny_holding (wpAny_point (wpAny_pure hr)))) fun _ _ x => x)
end
/-- enumerate(a text) -/
def iEnumS (ta : TA) : TI := fun σ H R => ta σ H fun vs H1 => ∃ x, vs = [.str x] ∧ R (ItsE x) H1
/-- enumerate(a list, start=k0) -/
def iEnumK (K : PySem.W.Frag) (k0 : Int) (ta : TA) : TI := fun σ H R => ta σ H fun vs H1 => ∃ a xs, vs = [.ref a] ∧ SqL K H1 a xs ∧ R (IteK K a k0) H1
section
variable {X : Cx} {e : Expr} {ta : TA} {p pos tpos cp kp : Pos} {elts : List Expr} {kk ck : Nat}
theorem pi_enumS (hg : Gl X "enumerate") (hm : X.mg "enumerate" = none) (ha : PA X [e] ta) (hs : starEach [e] X.env = [(false, eval e X.env)] := by rfl) :
    PI X (.Tuple elts kk tpos) (.Call (.Name "enumerate" p) [e] [] pos) (iEnumS ta) := by
  refine ⟨fun pins s σ H R I h => ?_⟩
  refine Call_ (ld_blt I hg hm boot_enumerate (PyProof.Rows.callWith_type1 (thn (ha.run pos pins s σ H _ I h) fun us s1 ⟨vs, H1, I1, r1, q1⟩ => ?_) hs rfl))
  obtain ⟨x, ex, q⟩ := q1
  subst ex
  cases r1 with
  | cons r rr =>
    cases rr
    obtain ⟨t, rfl⟩ := r
    refine call_enumerate_str fun h' he hit hsz hk => wpAny_pyIter_enum he ?_
    have I2 : Inv X pins σ H1 { s1 with heap := h' } := I1.kept (t' := s1.toks) hk
    refine ⟨s1.heap.objs.size + 1, [s1.heap.objs.size + 1, s1.heap.objs.size], _, _, H1, rfl, I2, turn_enumS x t (s1.heap.objs.size + 1) s1.heap.objs.size, ⟨⟨.none, he⟩, hit, Nat.succ_ne_self _⟩, fun b hb => ?_, q⟩
    have e' : b = s1.heap.objs.size + 1 ∨ b = s1.heap.objs.size := by simpa using hb
    have hle : s1.heap.objs.size ≤ b := by
      rcases e' with z | z
      · rw [z]; exact Nat.le_add_right _ _
      · rw [z]; exact Nat.le_refl _
    exact I1.fpOk hle (I1.hok.fresh hle)
theorem pi_enumK {k0 : Int} (h0 : -(2 ^ 63) ≤ k0) (h1 : k0 < 2 ^ 63) (hg : Gl X "enumerate") (hm : X.mg "enumerate" = none) (ha : PA X [e] ta) (he : backTo pos (starEach [e] X.env) = (false, eval e X.env) :: backTo pos (starEach [] X.env) := by rfl) (hpl : (backTo pos (starEach [e] X.env)).any (·.1) = false := by rfl) :
    PI X (.Tuple elts kk tpos) (.Call (.Name "enumerate" p) [e] [⟨some "start", .Constant (.int k0) ck cp, kp⟩] pos) (iEnumK X.K k0 ta) := by
  refine ⟨fun pins s σ H R I h => ?_⟩
  refine wpAny_Call_Name_kw (ld_blt I hg hm boot_enumerate ?_)
  refine callWith_typeKw (thn (ha.run pos pins s σ H _ I h) fun us s1 ⟨vs, H1, I1, r1, q1⟩ => ?_) he hpl
  obtain ⟨a, xs, ex, hq, q⟩ := q1
  subst ex
  cases r1 with
  | cons r rr =>
  cases rr
  cases r
  refine kws_cons (wpAny_Constant_int (kws_nil ?_))
  have I1' : Inv X pins σ H1 { s1 with toks := s1.toks + 1 } := I1.tok _
  obtain ⟨its, rv, p', hz⟩ := I1'.list hq
  refine enum_begins_start (begins_list a its.toArray) p'.isList h0 h1 fun h' he hit hsz hk => wpAny_pyIter_enum he ?_
  have I2 : Inv X pins σ H1 { s1 with heap := h', toks := s1.toks + 1 } := I1.kept (t' := s1.toks + 1) hk
  have hal : a < s1.heap.objs.size := by
    obtain ⟨o, ho, _⟩ := p'.isList
    exact Heap.lt_size ho
  have e0 : k0 + ((0 : Nat) : Int) = k0 := by omega
  refine ⟨s1.heap.objs.size + 1, [s1.heap.objs.size + 1, s1.heap.objs.size], _, _, H1, rfl, I2, turn_enumK k0 a (s1.heap.objs.size + 1) s1.heap.objs.size (Nat.ne_of_lt hal) (Nat.ne_of_lt (Nat.lt_succ_of_lt hal)), ⟨⟨.none, by rw [e0]; exact he⟩, ⟨_, hit, rfl, rfl⟩, Nat.succ_ne_self _⟩, fun b hb => ?_, q⟩
  have e' : b = s1.heap.objs.size + 1 ∨ b = s1.heap.objs.size := by simpa using hb
  have hle : s1.heap.objs.size ≤ b := by
    rcases e' with z | z
    · rw [z]; exact Nat.le_add_right _ _
    · rw [z]; exact Nat.le_refl _
  exact I1'.fpOk hle (I1'.hok.fresh hle)
end
end L2
namespace DL
open PySem L2
/-- the items with their numbers from k on -/
def enumL {α : Type} : List α → Int → List (Int × α)
  | [], _ => []
  | x :: xs, k => (k, x) :: enumL xs (k + 1)
theorem enumL_get {α : Type} : ∀ {xs : List α} {k : Int} {i : Nat}, (enumL xs k)[i]? = xs[i]?.map fun x => (k + (i : Int), x)
  | [], _, _ => by simp [enumL]
  | x :: xs, k, 0 => by simp [enumL]
  | x :: xs, k, i + 1 => by
    show (enumL xs (k + 1))[i]? = xs[i]?.map _
    rw [enumL_get (xs := xs)]
    have e : k + 1 + (i : Int) = k + ((i + 1 : Nat) : Int) := by omega
    rw [e]
theorem enumL_len {α : Type} : ∀ {xs : List α} {k : Int}, (enumL xs k).length = xs.length
  | [], _ => rfl
  | x :: xs, k => congrArg (· + 1) (enumL_len (xs := xs))
def splitC (a b : Str) : Option (List Str) := if (b.length == 0) = false ∧ a.length ≤ 16000000 then some (Txt.split a b) else none
def partC (a b : Str) : Option (Str × Str × Str) := if (b.length == 0) = false ∧ a.length ≤ 16000000 then some (Txt.partition a b) else none
abbrev rSplit : V → List V → Hp → VK → Prop := fun x xs H Q => ∃ a b, x = .str a ∧ xs = [.str b] ∧ (b.length == 0) = false ∧ a.length + 2 ≤ sizeLine ∧ rNewStrs (Txt.split a b) H Q
abbrev rPart : V → List V → Hp → VK → Prop := fun x xs H Q => ∃ a b, x = .str a ∧ xs = [.str b] ∧ (b.length == 0) = false ∧ a.length ≤ sizeLine ∧
  ∀ p, H p = none → Q (.ref p) (upd H p (.tup [.str (Txt.partition a b).1, .str (Txt.partition a b).2.1, .str (Txt.partition a b).2.2]))
section
variable {K : PySem.W.Frag} {es es' : List Sl} {te to : TE} {ta : TA} {z w : Str}
theorem reps_str {G : Hp} : ∀ {ys : List Str}, Reps K G (ys.map V.str) (ys.map Dt.str)
  | [] => .nil
  | y :: ys => .cons (.str y) (reps_str (ys := ys))
theorem el_split {ys : List Str} (ha : Ev K to es (.str z)) (hb : Ev K te es (.str w)) (h : splitC z w = some ys) : EvL K (tM1 rSplit to te) es (ys.map Dt.str) := fun F G H σ s Q q => by
  obtain ⟨⟨h1, h2⟩, rfl⟩ := ite_some h
  refine ha F G H σ s _ fun x G1 H1 s1 g1 r1 => ?_
  cases r1
  refine ⟨⟨_, rfl⟩, hb F G1 H1 σ s1 _ fun y G2 H2 s2 g2 r2 => ?_⟩
  cases r2
  refine ⟨_, _, rfl, rfl, h1, Nat.le_trans (Nat.add_le_add_right h2 2) (by decide), fun p hp => ?_⟩
  exact q p _ G2 _ (s2.prot hp) (s2.fnone hp) (g1.trans g2) reps_str
theorem ev_part {r : Str × Str × Str} (ha : Ev K to es (.str z)) (hb : Ev K te es (.str w)) (h : partC z w = some r) : Ev K (tM1 rPart to te) es (dT3 Dt.str Dt.str Dt.str r) := fun F G H σ s Q q => by
  obtain ⟨⟨h1, h2⟩, rfl⟩ := ite_some h
  refine ha F G H σ s _ fun x G1 H1 s1 g1 r1 => ?_
  cases r1
  refine ⟨⟨_, rfl⟩, hb F G1 H1 σ s1 _ fun y G2 H2 s2 g2 r2 => ?_⟩
  cases r2
  refine ⟨_, _, rfl, rfl, h1, Nat.le_trans h2 (by decide), fun p hp => ?_⟩
  exact q (.ref p) _ _ (s2.new hp) (g1.trans (g2.trans (same_upd (s2.gnone hp)))) (.tup (.inl (.inl upd_same)) (.cons (.str _) (.cons (.str _) (.cons (.str _) .nil))))
theorem ei_enumS (h : EvA K ta es [.str z]) : EvI K (iEnumS ta) es ((enumL (strL z) 0).map (dT2 Dt.int Dt.str)) := fun F G H σ s R q => h F G H σ s _ fun vs G1 H1 s1 g1 r1 => by
  cases r1 with
  | cons r rr =>
  cases rr
  cases r
  refine ⟨z, rfl, q _ G1 H1 s1 g1 fun i F2 G2 H2 σ2 es2 g2 s2 => ⟨fun d e => ?_, fun e => ?_⟩⟩
  · rw [List.getElem?_map, enumL_get] at e
    unfold strL at e
    rw [List.getElem?_map] at e
    cases hc : z.cps.toList[i]? with
    | none => rw [hc] at e; cases e
    | some c =>
      rw [hc] at e
      cases e
      have hi := (List.getElem?_eq_some_iff.mp hc).1
      refine ⟨by show i < z.cps.size; simpa using hi, fun x H3 y => ?_⟩
      obtain ⟨T, c', rfl, hT, rfl, hc'⟩ := y
      have : z.cps[i]? = some c := by simpa using hc
      rw [this] at hc'
      cases hc'
      refine ⟨_, s2.new hT, same_upd (s2.gnone hT), .tup (.inl (.inl upd_same)) (.cons ?_ (.cons (.str _) .nil))⟩
      show Rep K _ _ (.int (0 + (i : Int)))
      rw [Int.zero_add]
      exact .int _
  · show z.cps.size ≤ i
    rw [List.length_map, enumL_len] at e
    unfold strL at e
    simpa using e
theorem ei_enumK {α : Type} {em : α → Dt} {xs : List α} {k0 : Int} (h : EvA K ta es [.lst (xs.map em)]) : EvI K (iEnumK K k0 ta) es ((enumL xs k0).map (dT2 Dt.int em)) := fun F G H σ s R q => h F G H σ s _ fun vs G1 H1 s1 g1 r1 => by
  cases r1 with
  | cons r rr =>
  cases rr
  cases r with
  | lst hs r =>
  refine ⟨_, _, rfl, s1.g.seq hs, q _ G1 H1 s1 g1 fun i F2 G2 H2 σ2 es2 g2 s2 => ⟨fun d e => ?_, fun e => ⟨_, s2.g.seq (g2.seq hs), ?_⟩⟩⟩
  · rw [List.getElem?_map, enumL_get] at e
    cases hc : xs[i]? with
    | none => rw [hc] at e; cases e
    | some x =>
      rw [hc] at e
      cases e
      obtain ⟨v, hv, rv⟩ := r.get (i := i) (d := em x) (by rw [List.getElem?_map, hc]; rfl)
      refine ⟨⟨_, v, s2.g.seq (g2.seq hs), hv⟩, fun y H3 w => ?_⟩
      obtain ⟨T, x', rfl, hT, rfl, hx'⟩ := w
      have := hx' _ (s2.g.seq (g2.seq hs))
      rw [hv] at this
      cases this
      exact ⟨_, s2.new hT, same_upd (s2.gnone hT), .tup (.inl (.inl upd_same)) (.cons (.int _) (.cons ((rv.mono g2).mono (same_upd (s2.gnone hT))) .nil))⟩
  · have := r.length
    rw [List.length_map] at this
    rw [List.length_map, enumL_len] at e
    rw [this]
    exact e
variable {ρ : Type} {tz : TS} {m : Option ρ} {oc : ρ → Res}
/-- own.extend(a new list) -/
theorem sm_ext {α : Type} {em : α → Dt} {xs ys zs : List α} {i : Nat} {a : Option Addr} (hi : es[i]? = some (.own a (xs.map em))) (h : EvL K te es (ys.map em)) (hy : catC xs ys = some zs) (he : es.set i (.own a (zs.map em)) = es') (k : SM K tz es' m oc) :
    SM K (tSeq (tDrop (tBM K "list" rExtend (tVar i) (tCons te tNil))) tz) es m oc := fun r e F G H σ D s q => by
  obtain ⟨hl, rfl⟩ := ite_some hy
  obtain ⟨o, ho, p, vs, eo, g, f, hp, rr, an⟩ := s.sl i _ hi
  subst eo
  refine ⟨.ref p, ho, .inl ⟨rfl, vs, .inl (.inl hp)⟩, ?_⟩
  refine h F G H σ s _ fun p2 vs2 G1 H1 s1 hF g1 r1 => ?_
  obtain ⟨o, ho', p', vs', eo, g', f', hp', rr', an'⟩ := s1.sl i _ hi
  subst eo
  rw [ho] at ho'
  cases ho'
  have hlen := rr'.length
  have hlen2 := r1.length
  rw [List.length_map] at hlen hlen2
  have h2 : H1 p2 = some (.lst vs2) := s1.f p2 _ upd_same
  refine ⟨p, p2, vs', vs2, rfl, rfl, hp', h2, ?_, ?_⟩
  · rw [hlen, hlen2]
    exact Nat.le_trans hl (by decide)
  have w := s1.write (t' := .own a ((xs ++ ys).map em)) hi rfl rfl ho ⟨p, vs' ++ vs2, rfl, g', f', upd_same, by rw [List.map_append]; exact rr'.append r1, an'⟩ g' f'
  exact k r e F G1 _ σ D (he ▸ w.loose hF) (q.up g1)
end
end DL

/-! Dl25: loops over iterables whose making changes the slots -/
namespace DL
open PySem L2
def EvIM (K : PySem.W.Frag) (wi : TI) (es es' : List Sl) (ds : List Dt) : Prop := ∀ F G H σ, Stt K F G H σ es → ∀ R : It → Hp → Prop, (∀ J G' H', Stt K F G' H' σ es' → Same G G' → Yields K J G' ds → R J H') → wi σ H R
section
variable {K : PySem.W.Frag} {es es1 : List Sl} {α S R ρ : Type} {t u tb : TS} {oc : ρ → Res}
theorem eim_rng1 {ta : TA} {hi : Int} {xs : List Int} (h : EvMA K ta es es1 [.int hi]) (e : rngC 0 hi = some xs) : EvIM K (iRng1 ta) es es1 (xs.map Dt.int) := fun F G H σ s R q =>
  h F G H σ s _ fun vs G1 H1 s1 g1 r1 => by
    have p := ei_rng1 (K := K) (es := es1) (ta := fun σ H Q => Q vs H) (fun F' G' H' σ' s' Q q' => q' vs G' H' s' (Same.refl _) (by
      cases r1 with
      | cons r rr =>
        cases rr
        cases r
        exact .cons (.int _) .nil)) e
    exact p F G1 H1 σ s1 R fun J G2 H2 s2 g2 y => q J G2 H2 s2 (g1.trans g2) y
theorem sm_forM {xs : List α} {em : α → Dt} {wi : TI} {g : TG} {vs : List Nat} {env : S → List Sl} {en2 : α → S → List Sl} {ed : R → Dt} {ee : R → List Sl} {s0 : S} {f : α → S → Option (Fl S R)}
    (hi : EvIM K wi es es1 (xs.map em)) (w : Wk es1 (env s0)) (hg : ∀ x s, EvG K g vs (env s) (em x) (en2 x s)) (hb : ∀ x s, x ∈ xs → SM K tb (en2 x s) (f x s) (bodyRes env ed ee)) :
    SM K (tFor wi g tb) es (forF xs s0 f) (loopRes env ed ee) := fun r e F G H σ D st q => by
  refine hi F G H σ st _ fun J G1 H1 s1 g1 y => ?_
  refine ⟨fun i m σ' H' => ∃ G' s, Stt K F G' H' σ' (env s) ∧ Same G1 G' ∧ m = xs.length - i ∧ i ≤ xs.length ∧ forF (xs.drop i) s f = some r, ⟨_, G1, s0, s1.wk w, Same.refl _, rfl, Nat.zero_le _, e⟩, ?_⟩
  rintro i m σ' H' ⟨G', s, st', g', rfl, hle, e'⟩
  by_cases hlt : i < xs.length
  · refine .inr ?_
    have hd : xs.drop i = xs[i] :: xs.drop (i + 1) := List.drop_eq_getElem_cons hlt
    rw [hd] at e'
    have hmem : xs[i] ∈ xs := List.getElem_mem hlt
    cases hf : f xs[i] s with
    | none =>
      have : forF (xs[i] :: xs.drop (i + 1)) s f = none := by
        show (f xs[i] s).bind _ = none
        rw [hf]
        rfl
      rw [this] at e'
      cases e'
    | some o =>
      obtain ⟨go, yld⟩ := (y i F G' H' σ' (env s) g' st').1 (em xs[i]) (by rw [List.getElem?_map, List.getElem?_eq_getElem hlt]; rfl)
      refine ⟨go, fun σ2 H2 => ∃ G2 s2, Stt K F G2 H2 σ2 (env s2) ∧ Same G1 G2 ∧ forF (xs.drop (i + 1)) s2 f = some r, fun σ2 H2 ⟨G2, s2, a1, a2, a3⟩ => ⟨xs.length - (i + 1), by omega, G2, s2, a1, a2, rfl, by omega, a3⟩, fun x H2 hy => ?_⟩
      obtain ⟨G2, st2, g2, rx⟩ := yld x H2 hy
      refine hg xs[i] s F G2 H2 σ' x st2 rx _ fun σ3 G3 H3 st3 g3 _ _ => ?_
      refine hb xs[i] s hmem o hf F G3 H3 σ3 _ st3 ?_
      have e2 : Fl.step (fun s' => forF (xs.drop (i + 1)) s' f) o = some r := by
        have : forF (xs[i] :: xs.drop (i + 1)) s f = Fl.step (fun s' => forF (xs.drop (i + 1)) s' f) o := by
          show (f xs[i] s).bind _ = _
          rw [hf]
          rfl
        rw [← this]
        exact e'
      have gg := g1.trans (g'.trans (g2.trans g3))
      cases o with
      | nx s' => exact ⟨fun G4 H4 σ4 st4 g4 => ⟨G4, s', st4, g'.trans (g2.trans (g3.trans g4)), e2⟩, fun G4 H4 σ4 st4 g4 => ⟨G4, s', st4, g'.trans (g2.trans (g3.trans g4)), e2⟩⟩
      | bk s' =>
        cases e2
        exact q.up gg
      | rt r' =>
        cases e2
        exact q.up gg
  · have e3 : i = xs.length := by omega
    subst e3
    refine .inl ⟨(y xs.length F G' H' σ' (env s) g' st').2 (by simp), ?_⟩
    rw [List.drop_length] at e'
    cases e'
    exact q G' H' σ' st' (g1.trans g')
theorem sm_forLM {xs : List α} {em : α → Dt} {wi : TI} {g : TG} {vs : List Nat} {env : S → List Sl} {en2 : α → S → List Sl} {s0 : S} {f : α → S → Option S}
    (hi : EvIM K wi es es1 (xs.map em)) (w : Wk es1 (env s0)) (hg : ∀ x s, EvG K g vs (env s) (em x) (en2 x s)) (hb : ∀ x s, x ∈ xs → SM K tb (en2 x s) (f x s) fun s' => .go (env s')) :
    SM K (tFor wi g tb) es (forL xs s0 f) fun s => .nx (env s) := fun r e => by
  have h := sm_forM (R := Empty) (ed := fun _ => .non) (ee := fun _ => []) (f := fun x s => (f x s).bind fun s' => some (.nx s')) hi w hg fun x s hx => sm_bind fun s' hs => sm_some (hb x s hx s' hs)
  refine h (Fl.nx r) ?_
  rw [forF_forL (f := f), e]
  rfl
end
end DL

/-! Dl26: f-strings, join, own.append(what changes the slots) -/
namespace DL
open PySem L2
theorem bb_af {a b : Bool} (h : b = false) : (a && b) = false := by subst h; cases a <;> rfl
theorem bb_fa {a b : Bool} (h : a = false) : (a && b) = false := by subst h; rfl
theorem bb_tt {a b : Bool} (h : a = true) (k : b = true) : (a && b) = true := by subst h k; rfl
theorem bb_ot {a b : Bool} (h : b = true) : (a || b) = true := by subst h; cases a <;> rfl
theorem bb_to {a b : Bool} (h : a = true) : (a || b) = true := by subst h; rfl
theorem bb_ff {a b : Bool} (h : a = false) (k : b = false) : (a || b) = false := by subst h k; rfl
theorem ev_as {K : PySem.W.Frag} {te : TE} {es : List Sl} {α : Type} {em : α → Dt} {x : α} (h : Ev K te es (em x)) : Ev K te es (em x) := h
def lensS (ys : List Str) : Nat := (ys.map (·.length)).sum
/-- the parts of an f-string one behind the other -/
def fstrC (ys : List Str) : Option Str := if lensS ys ≤ 16000000 then some (ys.foldl (· ++ ·) Str.empty) else none
def joinC (z : Str) (ys : List Str) : Option Str := if lensS ys + ys.length * z.length ≤ 16000000 then some (Txt.join z ys) else none
abbrev rJoin (K : PySem.W.Frag) : V → List V → Hp → VK → Prop := fun x xs H Q => ∃ a p, ∃ ys : List Str, x = .str a ∧ xs = [.ref p] ∧ (SqL K H p (ys.map V.str) ∨ SqT K H p (ys.map V.str)) ∧
      (ys.map (·.length)).sum + ys.length * a.length ≤ 16777216 ∧ Q (.str (Txt.join a ys)) H
section
variable {K : PySem.W.Frag} {es es1 es' : List Sl}
inductive FJ (K : PySem.W.Frag) (es : List Sl) : List TE → List Str → Prop
  | nil : FJ K es [] []
  | str {te : TE} {y : Str} {ts : List TE} {ys : List Str} (h : Ev K te es (.str y)) (r : FJ K es ts ys) : FJ K es (te :: ts) (y :: ys)
  | fmt {te : TE} {y : Str} {ts : List TE} {ys : List Str} (h : Ev K te es (.str y)) (r : FJ K es ts ys) : FJ K es (tFmt te :: ts) (y :: ys)
  | int {te : TE} {i : Int} {y : Str} {ts : List TE} {ys : List Str} (h : Ev K te es (.int i)) (e : strC i = some y) (r : FJ K es ts ys) : FJ K es (tFmt te :: ts) (y :: ys)
theorem len_app (a b : Str) : (a ++ b).length = a.length + b.length := by
  show (a.cps ++ b.cps).size = _
  rw [Array.size_append]
  rfl
theorem lens_cons (y : Str) (ys : List Str) : lensS (y :: ys) = y.length + lensS ys := rfl
theorem fj_run {ts : List TE} {ys : List Str} (h : FJ K es ts ys) : ∀ (acc : Str), acc.length + lensS ys ≤ 16000000 → ∀ F G H σ, Stt K F G H σ es → ∀ Q : Str → Hp → Prop, (∀ G' H', Stt K F G' H' σ es → Same G G' → Q (ys.foldl (· ++ ·) acc) H') → tJs ts acc σ H Q := by
  have sz : (16000000 : Nat) ≤ sizeLine := by decide
  induction h with
  | nil => intro acc _ F G H σ s Q q; exact q G H s (Same.refl _)
  | @str te y ts ys h r ih =>
    intro acc hl F G H σ s Q q
    rw [lens_cons] at hl
    refine h F G H σ s _ fun v G1 H1 s1 g1 r1 => ?_
    cases r1
    refine ⟨y, rfl, by rw [len_app]; omega, ih (acc ++ y) (by rw [len_app]; omega) F G1 H1 σ s1 Q fun G2 H2 s2 g2 => q G2 H2 s2 (g1.trans g2)⟩
  | @fmt te y ts ys h r ih =>
    intro acc hl F G H σ s Q q
    rw [lens_cons] at hl
    refine h F G H σ s _ fun v G1 H1 s1 g1 r1 => ?_
    cases r1
    exact .inl ⟨y, rfl, by omega, y, rfl, by rw [len_app]; omega, ih (acc ++ y) (by rw [len_app]; omega) F G1 H1 σ s1 Q fun G2 H2 s2 g2 => q G2 H2 s2 (g1.trans g2)⟩
  | @int te i y ts ys h e r ih =>
    intro acc hl F G H σ s Q q
    rw [lens_cons] at hl
    obtain ⟨hi, rfl⟩ := ite_some e
    refine h F G H σ s _ fun v G1 H1 s1 g1 r1 => ?_
    cases r1
    exact .inr ⟨i, rfl, hi, _, rfl, by rw [len_app]; omega, ih (acc ++ _) (by rw [len_app]; omega) F G1 H1 σ s1 Q fun G2 H2 s2 g2 => q G2 H2 s2 (g1.trans g2)⟩
theorem ev_joined {ts : List TE} {ys : List Str} {z : Str} (h : FJ K es ts ys) (e : fstrC ys = some z) : Ev K (fun σ H Q => tJs ts Str.empty σ H fun out H1 => Q (.str out) H1) es (.str z) := fun F G H σ s Q q => by
  obtain ⟨hl, rfl⟩ := ite_some e
  exact fj_run h Str.empty (by show 0 + lensS ys ≤ _; omega) F G H σ s _ fun G1 H1 s1 g1 => q _ G1 H1 s1 g1 (.str _)
theorem vs_str {G : Hp} : ∀ {vs : List V} {ys : List Str}, Reps K G vs (ys.map Dt.str) → vs = ys.map V.str
  | [], [], _ => rfl
  | v :: vs, y :: ys, .cons h r => by
    cases h
    exact congrArg (V.str y :: ·) (vs_str r)
  | [], _ :: _, r => by cases r
  | _ :: _, [], r => by cases r
theorem ev_joinS {to te : TE} {z w : Str} {ys : List Str} (ha : Ev K to es (.str z)) (hb : Ev K te es (.lst (ys.map Dt.str))) (e : joinC z ys = some w) : Ev K (tM1 (rJoin K) to te) es (.str w) := fun F G H σ s Q q => by
  obtain ⟨hl, rfl⟩ := ite_some e
  refine ha F G H σ s _ fun x G1 H1 s1 g1 r1 => ?_
  cases r1
  refine ⟨⟨_, rfl⟩, hb F G1 H1 σ s1 _ fun y G2 H2 s2 g2 r2 => ?_⟩
  cases r2 with
  | lst hs r =>
    have e := vs_str r
    subst e
    exact ⟨_, _, ys, rfl, rfl, .inl (s2.g.seq hs), Nat.le_trans hl (by decide), q _ G2 H2 s2 (g1.trans g2) (.str _)⟩
variable {ρ : Type} {tz : TS} {m : Option ρ} {oc : ρ → Res} {te : TE}
theorem sm_appM {α β : Type} {em : α → Dt} {em0 : β → Dt} {xs ys : List α} {xs0 : List β} {x : α} {i : Nat} {a a0 : Option Addr} (hi0 : es[i]? = some (.own a0 (xs0.map em0))) (h : EvM K te es es1 (em x)) (hi : es1[i]? = some (.own a (xs.map em))) (hy : appC xs x = some ys) (he : es1.set i (.own a (ys.map em)) = es') (k : SM K tz es' m oc) :
    SM K (tSeq (tDrop (tBM K "list" rAppend (tVar i) (tCons te tNil))) tz) es m oc := fun r e F G H σ D s q => by
  obtain ⟨hl, rfl⟩ := ite_some hy
  obtain ⟨o, ho, p, vs, eo, g, f, hp, rr, an⟩ := s.sl i _ hi0
  subst eo
  refine ⟨.ref p, ho, .inl ⟨rfl, vs, .inl (.inl hp)⟩, ?_⟩
  refine h F G H σ s _ fun v G1 H1 s1 g1 r1 => ?_
  obtain ⟨o, ho', p', vs', eo, g', f', hp', rr', an'⟩ := s1.sl i _ hi
  subst eo
  rw [ho] at ho'
  cases ho'
  have hlen := rr'.length
  rw [List.length_map] at hlen
  have sz : (10000000 : Nat) < sizeLine := by decide
  refine ⟨p, vs', v, rfl, rfl, hp', by omega, ?_⟩
  refine k r e F G1 _ σ D (he ▸ s1.write hi rfl rfl ho ⟨p, vs' ++ [v], rfl, g', f', upd_same, ?_, an'⟩ g' f') (q.up g1)
  rw [List.map_append]
  exact rr'.append (.cons r1 .nil)
end
end DL

/-! Dl27: comprehensions whose items change the slots -/
namespace DL
open PySem L2
/-- a new list, and the slots changed -/
def EvLM (K : PySem.W.Frag) (te : TE) (es es' : List Sl) (ds : List Dt) : Prop := ∀ F G H σ, Stt K F G H σ es → ∀ Q : VK, (∀ p vs G' H', Stt K (upd F p (.lst vs)) G' H' σ es' → F p = none → Same G G' → Reps K G' vs ds → Q (.ref p) H') → te σ H Q
def mapS {α β S : Type} (f : α → S → Option (β × S)) : List α → S → Option (List β × S)
  | [], s => some ([], s)
  | x :: xs, s => (f x s).bind fun r => (mapS f xs r.2).bind fun q => some (r.1 :: q.1, q.2)
def mapSC {α β S : Type} (xs : List α) (s : S) (f : α → S → Option (β × S)) : Option (List β × S) := if xs.length ≤ 1000000 then mapS f xs s else none
/-- the frame's slots behind an item: data as they were, own lists as they are -/
inductive Swp (vs : List Nat) : Nat → List Sl → List Sl → List Sl → Prop
  | nil {k : Nat} : Swp vs k [] [] []
  | d {k : Nat} {t a : Sl} {as bs cs : List Sl} (h : t.isOwn = false) (r : Swp vs (k + 1) as bs cs) : Swp vs k (t :: as) (a :: bs) (t :: cs)
  | o {k : Nat} {t u : Sl} {as bs cs : List Sl} (h : k ∉ vs) (r : Swp vs (k + 1) as bs cs) : Swp vs k (u :: as) (t :: bs) (t :: cs)
theorem Swp.get {vs : List Nat} {k : Nat} {as bs cs : List Sl} (h : Swp vs k as bs cs) : ∀ {i : Nat} {t : Sl}, cs[i]? = some t → (t.isOwn = false ∧ as[i]? = some t) ∨ (k + i ∉ vs ∧ bs[i]? = some t) := by
  induction h with
  | nil => intro i t e; simp at e
  | @d k t a as bs cs h r ih =>
    intro i u e
    cases i with
    | zero => simp at e; subst e; exact .inl ⟨h, rfl⟩
    | succ i =>
      rcases ih (by simpa using e) with ⟨a1, a2⟩ | ⟨a1, a2⟩
      · exact .inl ⟨a1, by simpa using a2⟩
      · exact .inr ⟨by rwa [show k + 1 + i = k + (i + 1) by omega] at a1, by simpa using a2⟩
  | @o k t u as bs cs h r ih =>
    intro i w e
    cases i with
    | zero => simp at e; subst e; exact .inr ⟨h, rfl⟩
    | succ i =>
      rcases ih (by simpa using e) with ⟨a1, a2⟩ | ⟨a1, a2⟩
      · exact .inl ⟨a1, by simpa using a2⟩
      · exact .inr ⟨by rwa [show k + 1 + i = k + (i + 1) by omega] at a1, by simpa using a2⟩
theorem Swp.len {vs : List Nat} {k : Nat} {as bs cs : List Sl} (h : Swp vs k as bs cs) : cs.length = as.length := by
  induction h with
  | nil => rfl
  | d h r ih => simp [ih]
  | o h r ih => simp [ih]
section
variable {K : PySem.W.Frag} {es es1 es2 es' : List Sl} {α β S : Type} {te : TE} {ta : TA} {d : Dt}
theorem eim_of {wi : TI} {ds : List Dt} (h : EvI K wi es ds) : EvIM K wi es es ds := h
theorem Stt.swapM {F G1 H1 G2 H2 : Hp} {σ σ2 : L2.St} {fs gs : List Sl} {vs : List Nat} (s : Stt K F G1 H1 σ es) (w : Swp vs 0 es fs gs) (s2 : Stt K F G2 H2 σ2 fs) (hk : ∀ k, k ∉ vs → σ2[k]? = σ[k]?) (g : Same G1 G2) : Stt K F G2 H2 σ gs where
  f := s2.f
  g := s2.g
  dj := s2.dj
  len := by rw [s.len, w.len]
  sl := fun i t e => by
    rcases w.get e with ⟨h, e1⟩ | ⟨h, e1⟩
    · obtain ⟨x, hx, k⟩ := s.sl i t e1
      refine ⟨x, hx, ?_⟩
      cases t with
      | un => trivial
      | d x =>
        obtain ⟨v, e, r⟩ := k
        exact ⟨v, e, r.mono g⟩
      | own _ _ => cases h
      | obo _ _ _ => cases h
    · obtain ⟨x, hx, k⟩ := s2.sl i t e1
      rw [Nat.zero_add] at h
      exact ⟨x, by rw [← hk i h]; exact hx, k⟩
  ow := fun i j t u ne ei ej hi hj => by
    rcases w.get ei with ⟨h, _⟩ | ⟨h1, e1⟩
    · rw [h] at hi; cases hi
    rcases w.get ej with ⟨h, _⟩ | ⟨h2, e2⟩
    · rw [h] at hj; cases hj
    rw [Nat.zero_add] at h1 h2
    rw [← hk i h1, ← hk j h2]
    exact s2.ow i j t u ne e1 e2 hi hj
theorem el_mapM {wi : TI} {g : TG} {vs : List Nat} {xs : List α} {em : α → Dt} {em2 : β → Dt} {f : α → S → Option (β × S)} {env : S → List Sl} {en2 : α → S → List Sl} {en3 : α → S → List Sl} {s0 : S} {r : List β × S}
    (hi : EvIM K wi es (env s0) (xs.map em)) (hg : ∀ x s, EvG K g vs (wipeS (env s) vs) (em x) (en2 x s)) (hb : ∀ x s q, f x s = some q → EvM K te (en2 x s) (en3 x q.2) (em2 q.1)) (hw : ∀ x s s', Swp vs 0 (env s) (en3 x s') (env s')) (h : mapSC xs s0 f = some r) :
    EvLM K (tLc wi g tYes te vs) es (env r.2) (r.1.map em2) := fun F G H σ st Q q => by
  obtain ⟨hz, h⟩ := ite_some' h
  refine hi F G H σ st _ fun J G1 H1 s1 g1 y => fun Dl hD => ?_
  have hF : F Dl = none := s1.fnone hD
  have sz : (1000000 : Nat) < sizeLine := by decide
  refine ⟨fun i m H' => ∃ (G' : Hp) (acc : List V) (zs : List β) (s : S) (rest : List β × S), Stt K (upd F Dl (.lst acc)) G' H' σ (env s) ∧ Same G1 G' ∧ Reps K G' acc (zs.map em2) ∧ zs.length ≤ i ∧ mapS f (xs.drop i) s = some rest ∧ zs ++ rest.1 = r.1 ∧ rest.2 = r.2 ∧ m = xs.length - i ∧ i ≤ xs.length,
    ⟨_, G1, [], [], s0, r, s1.prot hD, Same.refl _, .nil, Nat.zero_le _, h, rfl, rfl, rfl, Nat.zero_le _⟩, ?_⟩
  rintro i m H' ⟨G', acc, zs, s, rest, st', g', racc, hzl, hc, hap, hap2, rfl, hle⟩
  by_cases hlt : i < xs.length
  · refine .inr ?_
    have hdr : xs.drop i = xs[i] :: xs.drop (i + 1) := List.drop_eq_getElem_cons hlt
    rw [hdr] at hc
    cases hf : f xs[i] s with
    | none =>
      have : mapS f (xs[i] :: xs.drop (i + 1)) s = none := by
        show (f xs[i] s).bind _ = none
        rw [hf]
        rfl
      rw [this] at hc
      cases hc
    | some o =>
      cases hr : mapS f (xs.drop (i + 1)) o.2 with
      | none =>
        have : mapS f (xs[i] :: xs.drop (i + 1)) s = none := by
          show (f xs[i] s).bind _ = none
          rw [hf]
          show (mapS f (xs.drop (i + 1)) o.2).bind _ = none
          rw [hr]
          rfl
        rw [this] at hc
        cases hc
      | some rest' =>
        have hc' : rest = (o.1 :: rest'.1, rest'.2) := by
          have : mapS f (xs[i] :: xs.drop (i + 1)) s = some (o.1 :: rest'.1, rest'.2) := by
            show (f xs[i] s).bind _ = _
            rw [hf]
            show (mapS f (xs.drop (i + 1)) o.2).bind _ = _
            rw [hr]
            rfl
          rw [this] at hc
          exact (Option.some.inj hc).symm
        obtain ⟨go, yld⟩ := (y i _ G' H' σ (env s) g' st').1 (em xs[i]) (by rw [List.getElem?_map, List.getElem?_eq_getElem hlt]; rfl)
        refine ⟨go, fun H2 => ∃ (G2 : Hp) (acc2 : List V) (zs2 : List β) (s2 : S) (rest2 : List β × S), Stt K (upd F Dl (.lst acc2)) G2 H2 σ (env s2) ∧ Same G1 G2 ∧ Reps K G2 acc2 (zs2.map em2) ∧ zs2.length ≤ i + 1 ∧ mapS f (xs.drop (i + 1)) s2 = some rest2 ∧ zs2 ++ rest2.1 = r.1 ∧ rest2.2 = r.2,
          fun H2 ⟨G2, acc2, zs2, s2, rest2, a1, a2, a3, a4, a5, a6, a7⟩ => ⟨xs.length - (i + 1), by omega, G2, acc2, zs2, s2, rest2, a1, a2, a3, a4, a5, a6, a7, rfl, by omega⟩, fun x H2 hy => ?_⟩
        obtain ⟨G2, st2, g2, rx⟩ := yld x H2 hy
        have hte := hb xs[i] s o hf
        refine hg xs[i] s (upd F Dl (.lst acc)) G2 H2 (L2.wipe σ vs) x (st2.wipe vs) rx _ fun σ3 G3 H3 st3 g3 l3 k3 => ?_
        refine ⟨by rw [wipe_ext (σ := L2.wipe σ vs) l3 k3]; exact wipe_ext (wipe_length _ _) fun k hk => wipe_get hk, ?_⟩
        refine et_yes _ G3 H3 σ3 st3 _ fun G4 H4 st4 g4 => ?_
        have gg : Same G' G4 := g2.trans (g3.trans g4)
        show te σ3 H4 _
        refine hte _ G4 H4 σ3 st4 _ fun v G5 H5 st5 g5 r5 => ?_
        have hzl2 : acc.length ≤ i := by
          have := racc.length
          rw [List.length_map] at this
          omega
        have sw := st2.swapM (hw xs[i] s o.2) st5 (fun k hk => by rw [k3 k hk]; exact wipe_get hk) (g3.trans (g4.trans g5))
        refine ⟨acc, st5.f Dl _ upd_same, by omega, G5, acc ++ [v], zs ++ [o.1], o.2, rest', sw.reprot, g'.trans (gg.trans g5), ?_, ?_, hr, ?_, ?_⟩
        · rw [List.map_append]
          exact (racc.mono (gg.trans g5)).append (.cons r5 .nil)
        · rw [List.length_append, List.length_singleton]
          omega
        · rw [List.append_assoc]
          rw [hc'] at hap
          exact hap
        · rw [hc'] at hap2
          exact hap2
  · have e3 : i = xs.length := by omega
    subst e3
    refine .inl ⟨(y xs.length _ G' H' σ (env s) g' st').2 (by simp), ?_⟩
    rw [List.drop_length] at hc
    cases hc
    have e4 : zs = r.1 := by
      have : zs ++ [] = r.1 := hap
      rwa [List.append_nil] at this
    have e5 : s = r.2 := hap2
    subst e4 e5
    exact q Dl acc G' H' st' hF (g1.trans g') racc
theorem evm_new {ds : List Dt} (h : EvLM K te es es' ds) : EvM K te es es' (.lst ds) := fun F G H σ s Q q =>
  h F G H σ s _ fun p vs G1 H1 s1 hF g1 r1 => by
    have gp : G1 p = none := s1.dj p _ upd_same
    exact q _ _ _ (s1.give hF) (g1.trans (same_upd gp)) (.lst (.inl (.inl upd_same)) (r1.mono (same_upd gp)))
theorem evm_pure {em2 : β → Dt} {en3 : S → List Sl} {y : β} {s : S} (h : EvM K te es (en3 s) (em2 y)) : ∀ q, some (y, s) = some q → EvM K te es (en3 q.2) (em2 q.1) := fun q e => by cases e; exact h
theorem evm_bnd {γ : Type} {em2 : β → Dt} {en3 : S → List Sl} {m1 : Option γ} {k : γ → Option (β × S)} (h : ∀ x, m1 = some x → ∀ q, k x = some q → EvM K te es (en3 q.2) (em2 q.1)) : ∀ q, m1.bind k = some q → EvM K te es (en3 q.2) (em2 q.1) := fun q e => by
  cases z : m1 with
  | none => rw [z] at e; cases e
  | some x => rw [z] at e; exact h x z q e
variable {ρ : Type} {tz : TS} {m : Option ρ} {oc : ρ → Res}
theorem sm_ownM {i : Nat} {ds : List Dt} (h : EvLM K te es es1 ds) (he : es1.set i (.own none ds) = es') (k : SM K tz es' m oc) : SM K (tSeq (tAsg te (gName i)) tz) es m oc := fun r e F G H σ D s q =>
  h F G H σ s _ fun p vs G1 H1 s1 hF g1 r1 => k r e F G1 H1 _ D (he ▸ s1.take hF r1) (q.up g1)
end
end DL

/-! Dl28: defs and methods that write to their first argument, an object -/
namespace DL
open PySem L2
def RMo (C : Addr) (P : List (Str × Dt) → List Dt → Dt → List (Str × Dt) → Prop) : List Sl → Dt → List Sl → Prop := fun ss d ss' => ∃ p fs ds gs, ss = .obo (some p) C fs :: ds.map .d ∧ ss' = .obo (some p) C gs :: ds.map .d ∧ P fs ds d gs
section
variable {K : PySem.W.Frag} {es es1 es2 es' fs : List Sl} {te : TE} {t : TA} {a b c d : Dt} {ds : List Dt} {C : Addr} {us gs : List (Str × Dt)}
theorem obo_data {F G H : Hp} {p dx : Addr} {vs : List V} {ws : List (Str × V)} (f : Same F H) (g : Same G H) (dj : ∀ a o, F a = some o → G a = none) (gp : G p = none) (fp : F p = none) (hp : H p = some (.ins C dx ws)) (rw' : RepF K G ws us) (r : Reps K G vs ds) :
    Stt K F G H ((V.ref p :: vs).map some) (.obo (some p) C us :: ds.map .d) := by
  have base := stt_data f g dj r
  refine ⟨f, g, dj, by rw [List.map_cons, List.length_cons, List.length_cons, base.len], fun i t e => ?_, fun i j t u nij ei ej hi hj => ?_⟩
  · cases i with
    | zero =>
      cases e
      exact ⟨_, rfl, p, dx, ws, rfl, gp, fp, hp, rw', fun q e => (Option.some.inj e).symm⟩
    | succ i => exact base.sl i t e
  · have no : ∀ (k : Nat) z, ((ds.map Sl.d))[k]? = some z → z.isOwn = true → False := fun k z e h => by
      rw [List.getElem?_map] at e
      cases q : ds[k]? with
      | none => rw [q] at e; cases e
      | some d => rw [q] at e; cases e; cases h
    cases i with
    | zero =>
      cases j with
      | zero => exact absurd rfl nij
      | succ j => exact (no j u ej hj).elim
    | succ i => exact (no i t ei hi).elim
end
section
open PyProof.Rows
variable {P : Program} {w : World} {K : PySem.W.Frag} {mg : Str → Option Value} {base : Heap}
theorem fn_O {x qual : Str} {st : Stmt} {f : Addr} {fd : FuncData} {N ps : List Str} {k : Nat} {C : Addr} {R : List (Str × Dt) → List Dt → Dt → List (Str × Dt) → Prop} (F : Fun K x qual st f fd) (S : FnScope N ps (defScope st)) (hl : ∀ xs ds d ys, R xs ds d ys → ds.length + 1 = ps.length)
    (body : ∀ (cdv : Value) (A : Around) (outer : List Env) (s : Shared) (H : Hp) (E : XK), Room k (A.deeper (PyProof.Rows.envOfC qual (defScope st) s.heap.objs.size f cdv)) →
      ∃ t, PSs (cxOf CX0 P w K mg base N qual (defScope st) f cdv A outer s H E).nox (defBody st) t ∧ ∀ p xs ds d ys, R xs ds d ys → ∃ o es, SEv K t (.obo (some p) C xs :: ds.map .d ++ List.replicate (N.length - ps.length) .un) o ∧ Ends2 d (.obo (some p) C ys :: es) o) :
    FnOk P w K mg base CX0 (k + 1) f fd ps (FSpec K (RMo C R)) := by
  refine F.ok S (fun vs H Q E h => ?_) (fun cdv A outer s H vs Q E hr h => ?_)
  · obtain ⟨F, G, ss, d, ss', s, ⟨p, xs, ds, ys, rfl, _, hR⟩, _⟩ := h
    have := s.len
    rw [List.length_map, List.length_cons, List.length_map, hl xs ds d ys hR] at this
    exact this
  · obtain ⟨t, ht, hb⟩ := body cdv A outer s H E hr
    refine ⟨t, ht, ?_⟩
    obtain ⟨F1, G, ss, d, ss', st1, ⟨p, xs, ds, ys, rfl, rfl, hR⟩, q⟩ := h
    obtain ⟨o, es, hs, he⟩ := hb p xs ds d ys hR
    refine hs F1 G H _ _ (stt_start st1 (by rw [List.length_cons, List.length_map, hl xs ds d ys hR])) (good_end he fun v G' H' σ' s' g r => ?_)
    cases vs with
    | nil =>
      have := st1.len
      simp at this
    | cons v0 vs =>
      obtain ⟨o0, ho0, p0, dx0, ws0, e0, g0, f0, h0, r0, a0⟩ := st1.sl 0 _ rfl
      cases ho0
      cases e0
      obtain rfl := a0 p rfl
      obtain ⟨o1, ho1, p1, dx1, ws1, e1, g1, f1, h1, r1, a1⟩ := s'.sl 0 _ rfl
      subst e1
      obtain rfl := a1 _ rfl
      have rs : Reps K G vs ds := data_of (vs := vs) (ds := ds) (K := K) (F := F1) (G := G) (H := H) (by have := st1.len; simpa using this) fun i t e => st1.sl (i + 1) t e
      exact q v G' H' (obo_data s'.f s'.g s'.dj g1 f1 h1 r1 (rs.mono g)) g r
end
section
variable {K : PySem.W.Frag} {es es1 es2 es' fs : List Sl} {te ta tb : TE} {t : TA} {a b c d : Dt} {ds : List Dt} {C : Addr} {us us0 gs : List (Str × Dt)}
theorem Stt.wroteO {F G H G' H' : Hp} {σ : L2.St} {i : Nat} {a : Option Addr} {p dx : Addr} {ws : List (Str × V)} (s : Stt K F G H σ es) (hi : es[i]? = some (.obo a C us)) (hp : σ[i]? = some (some (.ref p))) (f : Same (remP G H p) H') (g : Same G' H') (dj : ∀ x o, remP G H p x = some o → G' x = none) (gg : Same G G')
    (gp : G' p = none) (h' : H' p = some (.ins C dx ws)) (r : RepF K G' ws gs) : Stt K F G' H' σ (es.set i (.obo a C gs)) := by
  have hlt := (List.getElem?_eq_some_iff.mp hi).1
  obtain ⟨o0, ho0, p0, dx0, ws0, e0, g0, f0, h0, r0, a0⟩ := s.sl i _ hi
  rw [hp] at ho0
  subst e0
  cases ho0
  have up : ∀ x o, F x = some o → remP G H p x = some o := fun x o e => by
    have ne : x ≠ p := by rintro rfl; rw [f0] at e; cases e
    rw [remP_of ne (s.dj x o e)]
    exact s.f x o e
  refine ⟨fun x o e => f x o (up x o e), g, fun x o e => dj x o (up x o e), by rw [List.length_set]; exact s.len, fun j t e => ?_, fun j k t u ne ej ek hj hk => ?_⟩
  · by_cases q : i = j
    · subst q
      rw [List.getElem?_set_self hlt] at e
      cases e
      exact ⟨_, hp, p, dx, ws, rfl, gp, f0, h', r, a0⟩
    · rw [List.getElem?_set_ne q] at e
      obtain ⟨o, ho, k⟩ := s.sl j t e
      refine ⟨o, ho, ?_⟩
      cases t with
      | un => trivial
      | d x =>
        obtain ⟨v, ev, rv⟩ := k
        exact ⟨v, ev, rv.mono gg⟩
      | own b zs =>
        obtain ⟨p1, vs, eo, g1, f1, h1, rr, an⟩ := k
        have ne : p1 ≠ p := by
          rintro rfl
          exact s.ow i j _ _ q hi e rfl rfl (by rw [hp, ho, eo])
        have m := remP_of (G := G) (H := H) ne g1
        rw [h1] at m
        exact ⟨p1, vs, eo, dj _ _ m, f1, f _ _ m, rr.mono gg, an⟩
      | obo b C' zs =>
        obtain ⟨p1, dx1, vs, eo, g1, f1, h1, rr, an⟩ := k
        have ne : p1 ≠ p := by
          rintro rfl
          exact s.ow i j _ _ q hi e rfl rfl (by rw [hp, ho, eo])
        have m := remP_of (G := G) (H := H) ne g1
        rw [h1] at m
        exact ⟨p1, dx1, vs, eo, dj _ _ m, f1, f _ _ m, rr.mono gg, an⟩
  · have get : ∀ (j : Nat) (t : Sl), (es.set i (.obo a C gs))[j]? = some t → t.isOwn = true → ∃ t' : Sl, es[j]? = some t' ∧ t'.isOwn = true := fun j t e h => by
      by_cases q : i = j
      · subst q
        exact ⟨_, hi, rfl⟩
      · rw [List.getElem?_set_ne q] at e
        exact ⟨t, e, h⟩
    obtain ⟨t', e1, h1⟩ := get j t ej hj
    obtain ⟨u', e2, h2⟩ := get k u ek hk
    exact s.ow j k t' u' ne e1 e2 h1 h2
/-- the call itself, the object at p0 -/
theorem calledO {P : List (Str × Dt) → List Dt → Dt → List (Str × Dt) → Prop} {E : XK} {i : Nat} {a : Option Addr} {F G G1 H1 : Hp} {σ : L2.St} {p : Addr} {vs : List V} {Q : VK} (s1 : Stt K F G1 H1 σ es1) (ho : σ[i]? = some (some (.ref p))) (hi : es1[i]? = some (.obo a C us)) (hP : P us ds d gs) (he : es1.set i (.obo a C gs) = es') (r1 : Reps K G1 vs ds) (gg : Same G G1)
    (q : ∀ v G' H', Stt K F G' H' σ es' → Same G G' → Rep K G' v d → Q v H') : FSpec K (RMo C P) (.ref p :: vs) H1 Q E := by
  subst he
  obtain ⟨o1, ho1, p1, dx1, ws, e1, gp, fp, hp, rr, an⟩ := s1.sl i _ hi
  subst e1
  rw [ho] at ho1
  obtain rfl : p = p1 := by cases ho1; rfl
  have pp : remP G1 H1 p p = none := by
    unfold remP
    rw [if_pos rfl]
  refine ⟨remP G1 H1 p, G1, .obo (some p) C us :: ds.map .d, d, .obo (some p) C gs :: ds.map .d, obo_data (fun x o e => (remP_some e).2.1) s1.g (fun x o e => (remP_some e).2.2) gp pp hp rr r1, ⟨p, us, ds, gs, rfl, rfl, hP⟩, fun v G2 H2 s2 g2 r2 => ?_⟩
  obtain ⟨o2, ho2, p2, dx2, ws2, e2, gp2, fp2, hp2, rr2, an2⟩ := s2.sl 0 _ rfl
  cases ho2
  cases e2
  exact q v G2 H2 (s1.wroteO hi ho s2.f s2.g s2.dj g2 gp2 hp2 rr2) (gg.trans g2) r2
/-- f(own object, ..) -/
theorem evm_callO {P : List (Str × Dt) → List Dt → Dt → List (Str × Dt) → Prop} {E : XK} {i : Nat} {a a0 : Option Addr} {C0 : Addr} (hi0 : es[i]? = some (.obo a0 C0 us0)) (ha : EvMA K t es es1 ds) (hi : es1[i]? = some (.obo a C us)) (hP : P us ds d gs) (he : es1.set i (.obo a C gs) = es') :
    EvM K (tCall (FSpec K (RMo C P)) [] E (tCons (tVar i) t)) es es' d := fun F G H σ s Q q => by
  obtain ⟨o0, ho0, p0, _, _, e0, _⟩ := s.sl i _ hi0
  subst e0
  refine ⟨_, ho0, ha F G H σ s _ fun vs G1 H1 s1 g1 r1 => ?_⟩
  show FSpec K (RMo C P) (.ref p0 :: vs ++ []) H1 Q E
  rw [List.append_nil]
  exact calledO s1 ho0 hi hP he r1 g1 q
/-- own.m(..) -/
theorem evm_methO {P : List (Str × Dt) → List Dt → Dt → List (Str × Dt) → Prop} {E : XK} {i : Nat} {a a0 : Option Addr} {m : Str} (hi0 : es[i]? = some (.obo a0 C us0)) (hm : us0.lookup m = none) (ha : EvMA K t es es1 ds) (hi : es1[i]? = some (.obo a C us)) (hP : P us ds d gs) (he : es1.set i (.obo a C gs) = es') :
    EvM K (tMeth C m (FSpec K (RMo C P)) [] E (tVar i) t) es es' d := fun F G H σ s Q q => by
  obtain ⟨o0, ho0, p0, dx0, ws0, e0, g0, f0, h0, r0, an0⟩ := s.sl i _ hi0
  subst e0
  refine ⟨_, ho0, p0, dx0, ws0, rfl, h0, r0.lookup_none hm, ha F G H σ s _ fun vs G1 H1 s1 g1 r1 => ?_⟩
  rw [List.append_nil]
  exact calledO s1 ho0 hi hP he r1 g1 q
end
section
variable {K : PySem.W.Frag} {es es' : List Sl} {te : TE} {t : TA} {d : Dt} {ds dds : List Dt} {dvs : List V} {E : XK}
/-- all slots, as arguments -/
def taS : TA := fun σ H Q => ∃ vs, σ = vs.map some ∧ Q vs H
theorem slots_vs : ∀ {ds : List Dt} {σ : L2.St}, σ.length = ds.length → (∀ (i : Nat) (d : Dt), ds[i]? = some d → ∃ v, σ[i]? = some (some v)) → ∃ vs : List V, σ = vs.map some
  | [], [], _, _ => ⟨[], rfl⟩
  | d :: ds, o :: σ, hl, h => by
    obtain ⟨v, hv⟩ := h 0 d rfl
    obtain ⟨vs, rfl⟩ := slots_vs (ds := ds) (σ := σ) (by simpa using hl) fun i e k => h (i + 1) e (by simpa using k)
    have : o = some v := by simpa using hv
    exact ⟨v :: vs, by rw [this]; rfl⟩
  | [], _ :: _, hl, _ => by simp at hl
  | _ :: _, [], hl, _ => by simp at hl
theorem ea_slots : EvA K taS (ds.map .d) ds := fun F G H σ s Q q => by
  obtain ⟨vs, rfl⟩ := slots_vs (ds := ds) (σ := σ) (by rw [s.len, List.length_map]) fun i d e => by
    obtain ⟨o, ho, v, ev, _⟩ := s.sl i (.d d) (by rw [List.getElem?_map, e]; rfl)
    exact ⟨v, by rw [ho, ev]⟩
  exact ⟨vs, rfl, q vs G H s (Same.refl _) (@data_of K F G H [] [] vs ds (by have := s.len; simpa using this) fun i t e => s.sl i t e)⟩
theorem map_some_inj {vs ws : List V} (h : vs.map some = ws.map some) : vs = ws := by
  have := congrArg (List.filterMap _root_.id) h
  simpa [List.filterMap_map] using this
/-- C(..), the arguments change the slots -/
theorem evm_make {P : List Dt → List (Str × Dt) → Prop} {C : Addr} {fs : List (Str × Dt)} (ha : EvMA K t es es' ds) (hP : P ds fs) : EvM K (tMake C (FSpec K (RI C P)) [] E t) es es' (.obj C fs) := fun F G H σ s Q q =>
  ha F G H σ s _ fun vs G1 H1 s1 g1 r1 => by
    obtain ⟨ws, e, k⟩ := ev_make (E := E) (ea_slots (K := K) (ds := ds)) hP _ G1 H1 _ (stt_data s1.rem.1 s1.g s1.rem.2 r1) Q fun v G2 H2 s2 g2 r2 => q v G2 H2 (s1.after s2.f s2.g s2.dj g2) (g1.trans g2) r2
    obtain rfl := map_some_inj e
    exact k
end
end DL

/-! Dl29: starred items, tuple.index, extend by a tuple, isascii, isdigit -/
namespace DL
open PySem L2 PySem.Spec PyProof.Rows
def starC {α : Type} (xs : List α) : Option (List α) := if xs.length ≤ 100000 then some xs else none
section
variable {K : PySem.W.Frag} {es es' : List Sl} {te : TE} {t : TA} {ds xs : List Dt}
theorem ea_starT0 (h : Ev K te es (.tup xs)) (hr : EvA K t es ds) : EvA K (StX.tStar K te t) es (xs ++ ds) := fun F G H σ s Q q =>
  h F G H σ s _ fun x G1 H1 s1 g1 r1 => by
    cases r1 with
    | tup h1 q1 => exact ⟨_, _, rfl, .inl (sqT_mono s1.g h1), hr F G1 H1 σ s1 _ fun ys G2 H2 s2 g2 r2 => q _ G2 H2 s2 (g1.trans g2) ((q1.mono g2).append r2)⟩
theorem ea_starL0 (h : Ev K te es (.lst xs)) (hr : EvA K t es ds) : EvA K (StX.tStar K te t) es (xs ++ ds) := fun F G H σ s Q q =>
  h F G H σ s _ fun x G1 H1 s1 g1 r1 => by
    cases r1 with
    | lst h1 q1 => exact ⟨_, _, rfl, .inr (s1.g.seq h1), hr F G1 H1 σ s1 _ fun ys G2 H2 s2 g2 r2 => q _ G2 H2 s2 (g1.trans g2) ((q1.mono g2).append r2)⟩
variable {α : Type} {em : α → Dt} {a : α} {as bs : List α}
theorem ea_nilM : EvA K tNil es (([] : List α).map em) := ea_nil
theorem ea_consM (ha : Ev K te es (em a)) (hr : EvA K t es (as.map em)) : EvA K (tCons te t) es ((a :: as).map em) := ea_cons ha hr
theorem ea_starT (h : Ev K te es (.tup (as.map em))) (hr : EvA K t es (bs.map em)) : EvA K (StX.tStar K te t) es ((as ++ bs).map em) := by
  rw [List.map_append]
  exact ea_starT0 h hr
theorem ea_starL (h : Ev K te es (.lst (as.map em))) (hr : EvA K t es (bs.map em)) : EvA K (StX.tStar K te t) es ((as ++ bs).map em) := by
  rw [List.map_append]
  exact ea_starL0 h hr
theorem el_starC {ys : List α} (h : EvA K t es (as.map em)) (e : starC as = some ys) : EvL K (tLst t) es (ys.map em) := by
  obtain ⟨hl, rfl⟩ := ite_some e
  exact el_lst h (by rw [List.length_map]; exact hl)
end
/-! ### list.extend(a tuple) -/
theorem list_extend_tuple (l : Addr) (items : Array Value) (n : Nat) (b : Addr) (items2 : Array Value) (n2 : Nat) (dd : Option Addr) (sl : Array (Option Value)) (hs0 : ¬(!items.isEmpty && Builtin.List.listTooLong (items.size + items2.size)) = true) (hs1 : items.size ≤ sizeLine) (hs2 : items.size + items2.size ≤ sizeLine + 1) :
    Meets (Builtin.«list.extend» ⟨[.ref l, .ref b], []⟩) (fun _ R s => s.heap.get? l = some { cls := .type "list", dict := none, data := .seq items n, slots := #[] } ∧ s.heap.get? b = some { cls := .type "tuple", dict := dd, data := .seq items2 n2, slots := sl } ∧ R (.ok (.ret Value.none)) { s with heap := s.heap.update l (Obj.mapSeq fun x => x ++ items2), toks := s.toks }) :=
  .of_wp fun prog w A R s h => by
    obtain ⟨hp, g, d, tk, os⟩ := s; obtain ⟨hl, hb, h⟩ := h; have f1 := PySem.AutoSeq1.idx_int; have f2 := PySem.AutoSeq1.sub_tuple_tuple; have f3 := PySem.AutoSeq1.sub_list_list; have f4 := PySem.AutoSeq1.sub_tuple_list; have f5 := PySem.AutoSeq1.sub_list_tuple;
    have hz' : (items ++ items2).size ≤ sizeLine + 1 := by rw [Array.size_append]; exact hs2
    wp_walk using (wpAny_updateSeq hl rfl (hz := hs1) (_hz' := hz')), PySem.AutoSeq1.wpAny_loadPart' hl, PySem.AutoSeq1.wpAny_loadPart' hb; exact ⟨_, rfl, h⟩
section
variable {X : Cx}
def rExtendT (K : PySem.W.Frag) : V → List V → Hp → VK → Prop := fun x vs H Q => ∃ l b xs zs, x = .ref l ∧ vs = [.ref b] ∧ H l = some (.lst xs) ∧ SqT K H b zs ∧ xs.length + zs.length ≤ sizeLine ∧ Q .non (upd H l (.lst (xs ++ zs)))
theorem mt_extendT : MtM X "list.extend" (rExtendT X.K) := by
  intro pins s σ H x vs v us Q I rx rv h
  obtain ⟨l, b, xs, zs, rfl, rfl, hH, hB, hz, q⟩ := h
  cases rx
  obtain ⟨u, rfl, ru⟩ := rv.one
  cases ru
  obtain ⟨z, its, n, r, hl, e⟩ := I.lstM hH
  obtain ⟨its2, r2, pl, z2⟩ := I.tuple hB
  obtain ⟨⟨cls, dd, dt, sl⟩, ho, hc, n2, hd⟩ := pl
  simp only at hc hd
  subst hc
  subst hd
  have hl2 := r2.length
  have hsz : its.toArray.size + its2.toArray.size ≤ sizeLine := by rw [List.size_toArray, List.size_toArray]; omega
  have hlong : ¬ (!its.toArray.isEmpty && Builtin.List.listTooLong (its.toArray.size + its2.toArray.size)) = true := by
    rw [notLongL hsz, Bool.and_false]
    exact Bool.false_ne_true
  refine call_meets PySem.F.slot_list_extend ⟨_, e, rfl⟩ PySem.F.entry_list_extend (PySem.F.args_list_extend_2 _ _)
    (list_extend_tuple l its.toArray n b its2.toArray n2 dd sl hlong (by rw [List.size_toArray]; omega) (by omega)) ⟨e, ho, ?_⟩
  refine ⟨.non, _, I.lset (its' := its ++ its2) hH e (by simp) (r.append r2) ?_, rfl, q⟩
  rw [List.length_append]
  omega
/-! ### the place of a text in a tuple of texts; isascii, isdigit -/
def findS (z : Str) : List Str → Nat → Option Nat
  | [], _ => none
  | y :: ys, k => if y = z then some k else findS z ys (k + 1)
def idxC (ys : List Str) (z : Str) : Option Int := (findS z ys 0).map fun k => (k : Int)
theorem findS_at {z : Str} : ∀ {ys : List Str} {k j : Nat}, findS z ys k = some j → ∃ i, j = k + i ∧ ys[i]? = some z ∧ ∀ m, m < i → ys[m]? ≠ some z
  | [], _, _, h => by cases h
  | y :: ys, k, j, h => by
    unfold findS at h
    split at h
    · rename_i e
      cases h
      exact ⟨0, rfl, by rw [e]; rfl, fun m hm => absurd hm (Nat.not_lt_zero _)⟩
    · rename_i e
      obtain ⟨i, e1, e2, e3⟩ := findS_at h
      refine ⟨i + 1, by omega, e2, fun m hm => ?_⟩
      cases m with
      | zero => exact fun q => e (Option.some.inj q)
      | succ m => exact e3 m (by omega)
abbrev rTupIdx (K : PySem.W.Frag) : V → List V → Hp → VK → Prop := fun x xs H Q => ∃ p, ∃ ys : List Str, ∃ z j, x = .ref p ∧ xs = [.str z] ∧ SqT K H p (ys.map V.str) ∧ ys[j]? = some z ∧ (∀ m, m < j → ys[m]? ≠ some z) ∧ Q (.int (j : Nat)) H
abbrev rIsC (g : Str → Bool) : V → List V → Hp → VK → Prop := fun x xs H Q => ∃ a, x = .str a ∧ xs = [] ∧ True ∧ Q (.bl (g a)) H
end
theorem strs_ofR {K : PySem.W.Frag} {G : Hp} : ∀ {ys : List Str} {xs : List V}, Reps K G xs (ys.map Dt.str) → xs = ys.map V.str
  | [], _, .nil => rfl
  | y :: ys, _, .cons (.str _) r => by rw [strs_ofR r]; rfl
section
variable {K : PySem.W.Frag} {es es' : List Sl} {te to : TE} {z : Str} {ys : List Str} {i : Int}
theorem ev_tupIdx {a : Addr} (ho : ∀ G, Rep K G (.ref a) (.tup (ys.map Dt.str))) (hd : ∃ o, K.lookup a = some o ∧ o.cls = .type "tuple" ∧ o.dict = none) (he : Ev K te es (.str z)) (h : idxC ys z = some i) : Ev K (tBM K "tuple" (rTupIdx K) (tC (.ref a)) (tCons te tNil)) es (.int i) := fun F G H σ s Q q => by
  cases ho G with
  | @tup _ xs _ h1 q1 =>
    have e := strs_ofR q1
    subst e
    refine ⟨.inr (.inl ⟨rfl, hd⟩), he F G H σ s _ fun y G2 H2 s2 g2 r2 => ?_⟩
    cases r2
    unfold idxC at h
    cases hf : findS z ys 0 with
    | none => rw [hf] at h; cases h
    | some j =>
      rw [hf] at h
      cases h
      obtain ⟨k, e1, e2, e3⟩ := findS_at hf
      obtain rfl : j = k := by omega
      exact ⟨a, ys, z, j, rfl, rfl, sqT_mono (g2.trans s2.g) h1, e2, e3, q _ G2 H2 s2 g2 (.int _)⟩
theorem ev_isC {g : Str → Bool} (ho : Ev K to es (.str z)) : Ev K (tM0 (rIsC g) to) es (.bl (g z)) := fun F G H σ s Q q =>
  ho F G H σ s _ fun x G1 H1 s1 g1 r1 => by
    cases r1
    exact ⟨⟨_, rfl⟩, _, rfl, rfl, trivial, q _ G1 H1 s1 g1 (.bl _)⟩
variable {ρ : Type} {tz : TS} {m : Option ρ} {oc : ρ → Res}
/-- own.extend(a tuple) -/
theorem sm_extT {α : Type} {em : α → Dt} {xs ys zs : List α} {i : Nat} {a : Option Addr} (hi : es[i]? = some (.own a (xs.map em))) (h : Ev K te es (.tup (ys.map em))) (hy : catC xs ys = some zs) (he : es.set i (.own a (zs.map em)) = es') (k : SM K tz es' m oc) :
    SM K (tSeq (tDrop (tBM K "list" (rExtendT K) (tVar i) (tCons te tNil))) tz) es m oc := fun r e F G H σ D s q => by
  obtain ⟨hl, rfl⟩ := ite_some hy
  obtain ⟨o, ho, p, vs, eo, g, f, hp, rr, an⟩ := s.sl i _ hi
  subst eo
  refine ⟨.ref p, ho, .inl ⟨rfl, vs, .inl (.inl hp)⟩, ?_⟩
  refine h F G H σ s _ fun x2 G1 H1 s1 g1 r1 => ?_
  cases r1 with
  | @tup p2 vs2 _ h2 r1 =>
    obtain ⟨o, ho', p', vs', eo, g', f', hp', rr', an'⟩ := s1.sl i _ hi
    subst eo
    rw [ho] at ho'
    cases ho'
    have hlen := rr'.length
    have hlen2 := r1.length
    rw [List.length_map] at hlen hlen2
    refine ⟨p, p2, vs', vs2, rfl, rfl, hp', sqT_mono s1.g h2, ?_, ?_⟩
    · rw [hlen, hlen2]
      exact Nat.le_trans hl (by decide)
    have w := s1.write (t' := .own a ((xs ++ ys).map em)) hi rfl rfl ho ⟨p, vs' ++ vs2, rfl, g', f', upd_same, by rw [List.map_append]; exact rr'.append r1, an'⟩ g' f'
    exact k r e F G1 _ σ D (he ▸ w) (q.up g1)
end
end DL
namespace Hd
open PySem
theorem ptup_ok {K : PySem.W.Frag} {a : Addr} (h : ptupB K a = true) : ∃ o, K.lookup a = some o ∧ o.cls = .type "tuple" ∧ o.dict = none := by
  unfold ptupB at h
  cases q : K.lookup a with
  | none =>
    rw [q] at h
    cases h
  | some o =>
    obtain ⟨oc, od, dt, osl⟩ := o
    rw [q] at h
    cases oc with
    | type c =>
      cases od with
      | none => exact ⟨_, rfl, congrArg Value.type (of_decide_eq_true h), rfl⟩
      | some _ => cases h
    | _ => cases h
end Hd

/-! Dl30: names set from a list; a try whose body never raises -/
namespace L2
open PySem PySem.Spec PyProof.Rows
section
variable {X : Cx} {body : List Stmt} {h₀ : ExceptHandler} {hds : List ExceptHandler} {pos : Pos} {tb : WX → TS}
/-- try: body / except ..: the body raises nothing -/
theorem ps_try0 (hs : X.stack = X.env :: X.outer) (hf : X.env.frame = some X.env.locals) (hN : X.N.Nodup)
    (hb : ∀ (W : WX) (pn : List (Addr × Obj)) (xe : Value → Shared → Prop), Takes (X.tr pn xe) W → PassesOwn (model X.prog X.w) X.A X.env xe → PSs (X.tr pn xe) body (tb W)) :
    PS X (.Try body (h₀ :: hds) [] [] pos) (tb (fun _ _ _ _ => False)) := by
  refine ⟨fun pins s σ H D I h => wpAny_Try_except ?_⟩
  have ok := I.ok
  let E1 : Value → Shared → Prop := fun e s₁ => wpAny (model X.prog X.w) X.A (noteFrame e X.env) (fun _ s₂ => wpAny (model X.prog X.w) X.A (setFlight e none) (fun _ s₃ => wpAny (model X.prog X.w) X.A (handleBy e X.env (h₀ :: hds)) (SP X pins D) X.xe s₃) X.xe s₂) X.xe s₁
  have tk : Takes (X.tr (X.pn ++ pins) E1) (fun _ _ _ _ => False) := by
    rintro u s' ⟨a, B, sI, pins', τ, G, cls, d, rfl, J', nb, up, sky, na, os, ag, w⟩
    exact w.elim
  refine wpAny_mono ((hb _ (X.pn ++ pins) E1 tk PassesOwn.looking).run [] s σ H D (I.toTry _) h) (fun f s1 sp => ?_) (fun e s1 he => he)
  cases f with
  | next => obtain ⟨τ, G, J, q⟩ := sp; exact wpAny_execs_nil ⟨τ, G, J.ofTry ok, q⟩
  | brk => obtain ⟨τ, G, J, q⟩ := sp; exact ⟨τ, G, J.ofTry ok, q⟩
  | cont => obtain ⟨τ, G, J, q⟩ := sp; exact ⟨τ, G, J.ofTry ok, q⟩
  | ret u => obtain ⟨v, τ, G, J, r, q⟩ := sp; exact ⟨v, τ, G, J.ofTry ok, r, q⟩
end
end L2
namespace DL
open PySem L2
section
variable {K : PySem.W.Frag} {es : List Sl} {te : TE}
theorem eg_lst {n : Nat} {g : TGs} {vs : List Nat} {ds : List Dt} {es' : List Sl} (h : EvGs K g vs es ds es') (hn : ds.length = n) : EvG K (gLst K n g) vs es (.lst ds) es' := fun F G H σ v s r Q q => by
  cases r with
  | lst hs rr =>
    exact ⟨_, _, rfl, s.g.seq hs, by rw [rr.length]; exact hn, h F G H σ _ s rr Q q⟩
variable {α : Type} {em : α → Dt} {xs : List α}
def un7C : List α → Option (α × α × α × α × α × α × α)
  | [a, b, c, d, e, f, g] => some (a, b, c, d, e, f, g)
  | _ => none
theorem un7_eq {y : α × α × α × α × α × α × α} (h : un7C xs = some y) : xs = [y.1, y.2.1, y.2.2.1, y.2.2.2.1, y.2.2.2.2.1, y.2.2.2.2.2.1, y.2.2.2.2.2.2] := by
  unfold un7C at h
  split at h
  · cases h; rfl
  · cases h
theorem gl_eq {α β : Type} {u : Sum α β} {a : α} (h : Sum.getLeft? u = some a) : u = .inl a := by
  cases u with
  | inl x => cases h; rfl
  | inr x => cases h
theorem ev_un7 {y : α × α × α × α × α × α × α} (h : un7C xs = some y) (he : Ev K te es (.lst (xs.map em))) : Ev K te es (dF7 em em em em em em em y) := by
  have e : Dt.lst (xs.map em) = dF7 em em em em em em em y := by rw [un7_eq h]; rfl
  exact e ▸ he
end
end DL

/-! Dl31: methods that write to their object and may raise; expressions that write, and raise behind -/
namespace DL
open PySem L2
def XO (C : Addr) (P : List (Str × Dt) → List Dt → Addr → Str → Prop) : List Sl → Addr → Str → Prop := fun ss c f => ∃ p fs ds, ss = .obo (some p) C fs :: ds.map .d ∧ P fs ds c f
section
open PyProof.Rows
variable {P : Program} {w : World} {K : PySem.W.Frag} {mg : Str → Option Value} {base : Heap}
theorem fnx_O {x qual : Str} {st : Stmt} {f : Addr} {fd : FuncData} {N ps : List Str} {k : Nat} {C : Addr} {R : List (Str × Dt) → List Dt → Addr → Str → Prop} (F : Fun K x qual st f fd) (S : FnScope N ps (defScope st)) (hl : ∀ fs ds c g, R fs ds c g → ds.length + 1 = ps.length)
    (body : ∀ (cdv : Value) (A : Around) (outer : List Env) (s : Shared) (H : Hp) (E : XK), Room k (A.deeper (PyProof.Rows.envOfC qual (defScope st) s.heap.objs.size f cdv)) →
      ∃ t, PSs (cxOf (L2.CX P w) P w K mg base N qual (defScope st) f cdv A outer s H E) (defBody st) t ∧ ∀ p fs ds c g, R fs ds c g → SEvX K t E (.obo (some p) C fs :: ds.map .d ++ List.replicate (N.length - ps.length) .un) c g) :
    FnOk P w K mg base (L2.CX P w) (k + 1) f fd ps (FSpecX K (XO C R)) := by
  refine F.okX S (fun vs H Q E h => ?_) (fun cdv A outer s H vs Q E hr h => ?_)
  · obtain ⟨F, G, ss, c, g, s, ⟨p, fs, ds, rfl, hR⟩, _⟩ := h
    have := s.len
    rw [List.length_map, List.length_cons, List.length_map, hl fs ds c g hR] at this
    exact this
  · obtain ⟨t, ht, hb⟩ := body cdv A outer s H E hr
    refine ⟨t, ht, ?_⟩
    obtain ⟨F1, G, ss, c, g, st1, ⟨p, fs, ds, rfl, hR⟩, q⟩ := h
    exact hb p fs ds c g hR F1 G H _ _ (stt_start st1 (by rw [List.length_cons, List.length_map, hl fs ds c g hR])) q
theorem passX {CX : CXT} {X : Cx} {E : XK} (h : ∀ σ, PassesAt CX X σ E) : Passes CX X E := fun pins σ H s e s' I c => h σ pins H s e s' I c
end
section
variable {K : PySem.W.Frag} {E : XK} {es es1 es2 es' : List Sl} {c : Addr} {f : Str} {te ta : TE} {t : TA} {a d : Dt} {ds : List Dt} {us us0 gs : List (Str × Dt)} {C : Addr}
/-- an expression raises, whatever it wrote before -/
def XvG (K : PySem.W.Frag) (te : TE) (E : XK) (es : List Sl) (c : Addr) (f : Str) : Prop := ∀ F G H σ, Stt K F G H σ es → GoodX F G E c f → ∀ Q : VK, te σ H Q
def XvGA (K : PySem.W.Frag) (ta : TA) (E : XK) (es : List Sl) (c : Addr) (f : Str) : Prop := ∀ F G H σ, Stt K F G H σ es → GoodX F G E c f → ∀ Q : List V → Hp → Prop, ta σ H Q
theorem xg_of {tc : (L2.St → XK) → TE} {E' : L2.St → XK} (hE : E' = fun _ => E) (h : XvE K tc es c f) : XvG K (tc E') E es c f := fun F G H σ s q Q => by
  subst hE
  exact h F G H σ s Q _ fun dd G' H' s' g' h1 f1 n1 => q dd G' H' s'.f s'.g s'.dj g' h1 f1 n1
theorem xga_hd (h : XvG K te E es c f) : XvGA K (tCons te t) E es c f := fun F G H σ s q Q => h F G H σ s q _
theorem xga_tl (ha : EvM K te es es1 a) (h : XvGA K t E es1 c f) : XvGA K (tCons te t) E es c f := fun F G H σ s q Q =>
  ha F G H σ s _ fun v G1 H1 s1 g1 r1 => h F G1 H1 σ s1 (q.up g1) _
theorem xg_tup (h : XvGA K t E es c f) : XvG K (tTup t) E es c f := fun F G H σ s q Q => h F G H σ s q _
/-- the call itself, the object at p0 -/
theorem raisedO {P : List (Str × Dt) → List Dt → Addr → Str → Prop} {i : Nat} {a : Option Addr} {F G H1 : Hp} {σ : L2.St} {p : Addr} {vs : List V} {Q : VK} (s1 : Stt K F G H1 σ es1) (ho : σ[i]? = some (some (.ref p))) (hi : es1[i]? = some (.obo a C us)) (hP : P us ds c f) (r1 : Reps K G vs ds) (q : GoodX F G E c f) : FSpecX K (XO C P) (.ref p :: vs) H1 Q E := by
  obtain ⟨o1, ho1, p1, dx1, ws, e1, gp, fp, hp, rr, an⟩ := s1.sl i _ hi
  subst e1
  rw [ho] at ho1
  obtain rfl : p = p1 := by cases ho1; rfl
  have pp : remP G H1 p p = none := by
    unfold remP
    rw [if_pos rfl]
  refine ⟨remP G H1 p, G, .obo (some p) C us :: ds.map .d, c, f, obo_data (fun x o e => (remP_some e).2.1) s1.g (fun x o e => (remP_some e).2.2) gp pp hp rr r1, ⟨p, us, ds, rfl, hP⟩, fun dd G2 H2 a1 a2 a3 a4 a5 a6 a7 => ?_⟩
  have up : ∀ x o, F x = some o → remP G H1 p x = some o := fun x o e => by
    have ne : x ≠ p := by rintro rfl; rw [fp] at e; cases e
    rw [remP_of ne (s1.dj x o e)]
    exact s1.f x o e
  refine q dd G2 H2 (fun x o e => a1 x o (up x o e)) a2 (fun x o e => a3 x o (up x o e)) a4 a5 ?_ a7
  cases qf : F dd with
  | none => rfl
  | some o => rw [up dd o qf] at a6; cases a6
theorem xg_meth {P : List (Str × Dt) → List Dt → Addr → Str → Prop} {sp : Sp} {i : Nat} {a a0 : Option Addr} {m : Str} (hi0 : es[i]? = some (.obo a0 C us0)) (hm : us0.lookup m = none) (ha : EvMA K t es es1 ds) (hi : es1[i]? = some (.obo a C us)) (hP : P us ds c f) :
    XvG K (tMeth C m (spOr sp (FSpecX K (XO C P))) [] E (tVar i) t) E es c f := fun F G H σ s q Q => by
  obtain ⟨o0, ho0, p0, dx0, ws0, e0, g0, f0, h0, r0, an0⟩ := s.sl i _ hi0
  subst e0
  refine ⟨_, ho0, p0, dx0, ws0, rfl, h0, r0.lookup_none hm, ha F G H σ s _ fun vs G1 H1 s1 g1 r1 => ?_⟩
  rw [List.append_nil]
  exact .inr (raisedO s1 ho0 hi hP r1 (q.up g1))
/-- own.m(..), which might have raised -/
theorem evm_methOX {P : List (Str × Dt) → List Dt → Dt → List (Str × Dt) → Prop} {sp : Sp} {i : Nat} {a a0 : Option Addr} {m : Str} (hi0 : es[i]? = some (.obo a0 C us0)) (hm : us0.lookup m = none) (ha : EvMA K t es es1 ds) (hi : es1[i]? = some (.obo a C us)) (hP : P us ds d gs) (he : es1.set i (.obo a C gs) = es') :
    EvM K (tMeth C m (spOr (FSpec K (RMo C P)) sp) [] E (tVar i) t) es es' d := fun F G H σ s Q q => by
  obtain ⟨o0, ho0, p0, dx0, ws0, e0, g0, f0, h0, r0, an0⟩ := s.sl i _ hi0
  subst e0
  refine ⟨_, ho0, p0, dx0, ws0, rfl, h0, r0.lookup_none hm, ha F G H σ s _ fun vs G1 H1 s1 g1 r1 => ?_⟩
  rw [List.append_nil]
  exact .inl (calledO s1 ho0 hi hP he r1 g1 q)
variable {tz : TS} {m x : Option Str} {ρ : Type} {oc : ρ → Res} {n : Option ρ}
theorem smx_asgE {g : TG} (hx : ∀ f, x = some f → XvG K te E es c f) : SMX K (tSeq (tAsg te g) tz) E es c x := fun f e F G H σ D s q => hx f e F G H σ s q _
theorem smx_dropE (hx : ∀ f, x = some f → XvG K te E es c f) : SMX K (tSeq (tDrop te) tz) E es c x := fun f e F G H σ D s q => hx f e F G H σ s q _
/-- it raises, or all goes on -/
theorem smx_or {t : TS} (h1 : SMX K t E es c x) (h2 : x = none → SMX K t E es c m) : SMX K t E es c (tryX x some m) := fun f e => by
  cases x with
  | none => exact h2 rfl f e
  | some g => exact h1 f e
theorem smx_setM {i : Nat} (h : EvM K te es es1 d) (he : es1.set i (.d d) = es') (k : SMX K tz E es' c m) : SMX K (tSeq (tAsg te (gName i)) tz) E es c m := fun r e F G H σ D s q =>
  h F G H σ s _ fun v G1 H1 s1 g1 r1 => k r e F G1 H1 _ D (he ▸ s1.set r1) (q.up g1)
theorem smx_dropM (h : EvM K te es es1 d) (k : SMX K tz E es1 c m) : SMX K (tSeq (tDrop te) tz) E es c m := fun r e F G H σ D s q =>
  h F G H σ s _ fun v G1 H1 s1 g1 r1 => k r e F G1 H1 _ D s1 (q.up g1)
theorem smx_ownO {i : Nat} {fs : List (Str × Dt)} (h : EvOb K te es C fs) (he : es.set i (.obo none C fs) = es') (k : SMX K tz E es' c m) : SMX K (tSeq (tAsg te (gName i)) tz) E es c m := fun r e F G H σ D s q =>
  h F G H σ s _ fun p dx vs G1 H1 s1 hF g1 r1 => k r e F G1 H1 _ D (he ▸ s1.takeO hF r1) (q.up g1)
end
end DL

/-! Dl32: exceptions without fields: what raises them, calls that may raise them, a try that catches one -/
namespace L2
open PySem PySem.Spec PyProof.Rows
/-- an own class of exceptions without own __init__ -/
structure ExcP (K : PySem.W.Frag) (mg : Str → Option Value) (x : Str) (C : Addr) : Prop where
  g : mg x = some (.ref C)
  q : PySem.W.excIn K C [.type "ValueError", .type "Exception", .type "BaseException", .type "object"] "ValueError.__new__" = true
  k : PySem.W.keepIn K (.ref C) = true
  s : PySem.W.subIn K (.ref C) (.type "BaseException") = some true
  t : PySem.W.typeIn K (.ref C) = some (.type "type")
theorem ps_raiseP {X : Cx} {W : WX} {x m : Str} {C : Addr} {j : Nat} {p p2 pos pos' : Pos} (hc : X.calm = true) (tk : Takes X W) (T : ExcP X.K X.mg x C) (hg : Gl X x) (hdb : (x == ("__debug__" : Str)) = false := by decide) :
    PS X (.Raise (some (.Call (.Name x p) [.Constant (.str m) j p2] [] pos)) none pos') (fun _ σ H => W (.ref C) none σ H) := ps_raise hc tk (pmk_own PySem.F.excBase_ValueError T.q T.g T.k (raises_own T.s T.t) hg hdb)
end L2
namespace DL
open PySem L2
def tRaiseP (W : WX) (C : Addr) : TS := fun _ σ H => W (.ref C) none σ H
def GoodZ (F G : Hp) (E : XK) (c : Addr) : Prop := ∀ G' H', Same F H' → Same G' H' → (∀ a o, F a = some o → G' a = none) → Same G G' → E (.ref c) none H'
theorem GoodZ.up {F G G1 : Hp} {E : XK} {c : Addr} (h : GoodZ F G E c) (g : Same G G1) : GoodZ F G1 E c := fun G' H' a b d e => h G' H' a b d (g.trans e)
def SEvZ (K : PySem.W.Frag) (t : TS) (E : XK) (es : List Sl) (c : Addr) : Prop := ∀ F G H σ D, Stt K F G H σ es → GoodZ F G E c → t D σ H
def SMZ (K : PySem.W.Frag) (t : TS) (E : XK) (es : List Sl) (c : Addr) (m : Option Str) : Prop := ∀ f, m = some f → SEvZ K t E es c
def XvZ (K : PySem.W.Frag) (te : TE) (E : XK) (es : List Sl) (c : Addr) : Prop := ∀ F G H σ, Stt K F G H σ es → GoodZ F G E c → ∀ Q : VK, te σ H Q
def XvZA (K : PySem.W.Frag) (ta : TA) (E : XK) (es : List Sl) (c : Addr) : Prop := ∀ F G H σ, Stt K F G H σ es → GoodZ F G E c → ∀ Q : List V → Hp → Prop, ta σ H Q
def FSpecZ (K : PySem.W.Frag) (R : List Sl → Addr → Prop) : Sp := fun vs H _ E => ∃ F G ss c, Stt K F G H (vs.map some) ss ∧ R ss c ∧ GoodZ F G E c
def ZD (P : List Dt → Addr → Prop) : List Sl → Addr → Prop := fun ss c => ∃ ds, ss = ds.map .d ∧ P ds c
def ZI (C : Addr) (P : List Dt → Addr → Prop) : List Sl → Addr → Prop := fun ss c => ∃ p ds, ss = .obo (some p) C [] :: ds.map .d ∧ P ds c
def ZO (C : Addr) (P : List (Str × Dt) → List Dt → Addr → Prop) : List Sl → Addr → Prop := fun ss c => ∃ p fs ds, ss = .obo (some p) C fs :: ds.map .d ∧ P fs ds c
section
open PyProof.Rows
variable {P : Program} {w : World} {K : PySem.W.Frag} {mg : Str → Option Value} {base : Heap}
theorem fnz_D {x qual : Str} {st : Stmt} {f : Addr} {fd : FuncData} {N ps : List Str} {k : Nat} {R : List Dt → Addr → Prop} (F : Fun K x qual st f fd) (S : FnScope N ps (defScope st)) (hl : ∀ ds c, R ds c → ds.length = ps.length)
    (body : ∀ (cdv : Value) (A : Around) (outer : List Env) (s : Shared) (H : Hp) (E : XK), Room k (A.deeper (PyProof.Rows.envOfC qual (defScope st) s.heap.objs.size f cdv)) →
      ∃ t, PSs (cxOf (L2.CX P w) P w K mg base N qual (defScope st) f cdv A outer s H E) (defBody st) t ∧ ∀ ds c, R ds c → SEvZ K t E (ds.map .d ++ List.replicate (N.length - ps.length) .un) c) :
    FnOk P w K mg base (L2.CX P w) (k + 1) f fd ps (FSpecZ K (ZD R)) := by
  refine F.okX S (fun vs H Q E h => ?_) (fun cdv A outer s H vs Q E hr h => ?_)
  · obtain ⟨F, G, ss, c, s, ⟨ds, rfl, hR⟩, _⟩ := h
    have := s.len
    rw [List.length_map, List.length_map, hl ds c hR] at this
    exact this
  · obtain ⟨t, ht, hb⟩ := body cdv A outer s H E hr
    refine ⟨t, ht, ?_⟩
    obtain ⟨F1, G, ss, c, st1, ⟨ds, rfl, hR⟩, q⟩ := h
    exact hb ds c hR F1 G H _ _ (stt_start st1 (by rw [List.length_map, hl ds c hR])) q
theorem fnz_I {x qual : Str} {st : Stmt} {f : Addr} {fd : FuncData} {N ps : List Str} {k : Nat} {C : Addr} {R : List Dt → Addr → Prop} (F : Fun K x qual st f fd) (S : FnScope N ps (defScope st)) (hl : ∀ ds c, R ds c → ds.length + 1 = ps.length)
    (body : ∀ (cdv : Value) (A : Around) (outer : List Env) (s : Shared) (H : Hp) (E : XK), Room k (A.deeper (PyProof.Rows.envOfC qual (defScope st) s.heap.objs.size f cdv)) →
      ∃ t, PSs (cxOf (L2.CX P w) P w K mg base N qual (defScope st) f cdv A outer s H E) (defBody st) t ∧ ∀ p ds c, R ds c → SEvZ K t E (.obo (some p) C [] :: ds.map .d ++ List.replicate (N.length - ps.length) .un) c) :
    FnOk P w K mg base (L2.CX P w) (k + 1) f fd ps (FSpecZ K (ZI C R)) := by
  refine F.okX S (fun vs H Q E h => ?_) (fun cdv A outer s H vs Q E hr h => ?_)
  · obtain ⟨F, G, ss, c, s, ⟨p, ds, rfl, hR⟩, _⟩ := h
    have := s.len
    rw [List.length_map, List.length_cons, List.length_map, hl ds c hR] at this
    exact this
  · obtain ⟨t, ht, hb⟩ := body cdv A outer s H E hr
    refine ⟨t, ht, ?_⟩
    obtain ⟨F1, G, ss, c, st1, ⟨p, ds, rfl, hR⟩, q⟩ := h
    exact hb p ds c hR F1 G H _ _ (stt_start st1 (by rw [List.length_cons, List.length_map, hl ds c hR])) q
theorem fnz_O {x qual : Str} {st : Stmt} {f : Addr} {fd : FuncData} {N ps : List Str} {k : Nat} {C : Addr} {R : List (Str × Dt) → List Dt → Addr → Prop} (F : Fun K x qual st f fd) (S : FnScope N ps (defScope st)) (hl : ∀ fs ds c, R fs ds c → ds.length + 1 = ps.length)
    (body : ∀ (cdv : Value) (A : Around) (outer : List Env) (s : Shared) (H : Hp) (E : XK), Room k (A.deeper (PyProof.Rows.envOfC qual (defScope st) s.heap.objs.size f cdv)) →
      ∃ t, PSs (cxOf (L2.CX P w) P w K mg base N qual (defScope st) f cdv A outer s H E) (defBody st) t ∧ ∀ p fs ds c, R fs ds c → SEvZ K t E (.obo (some p) C fs :: ds.map .d ++ List.replicate (N.length - ps.length) .un) c) :
    FnOk P w K mg base (L2.CX P w) (k + 1) f fd ps (FSpecZ K (ZO C R)) := by
  refine F.okX S (fun vs H Q E h => ?_) (fun cdv A outer s H vs Q E hr h => ?_)
  · obtain ⟨F, G, ss, c, s, ⟨p, fs, ds, rfl, hR⟩, _⟩ := h
    have := s.len
    rw [List.length_map, List.length_cons, List.length_map, hl fs ds c hR] at this
    exact this
  · obtain ⟨t, ht, hb⟩ := body cdv A outer s H E hr
    refine ⟨t, ht, ?_⟩
    obtain ⟨F1, G, ss, c, st1, ⟨p, fs, ds, rfl, hR⟩, q⟩ := h
    exact hb p fs ds c hR F1 G H _ _ (stt_start st1 (by rw [List.length_cons, List.length_map, hl fs ds c hR])) q
end
section
variable {K : PySem.W.Frag} {E : XK} {es es1 es2 es' fs : List Sl} {c C : Addr} {t u tz : TS} {te : TE} {ta : TA} {tt : TT} {m x p q : Option Str} {a d : Dt} {ds : List Dt} {us us0 gs : List (Str × Dt)}
theorem smz_run {g : Str} (h : m = some g) (k : SMZ K t E es c m) : SEvZ K t E es c := k g h
theorem smz_none : SMZ K t E es c none := fun f e => by cases e
theorem smz_bind {α : Type} {m1 : Option α} {f : α → Option Str} (h : ∀ x, m1 = some x → SMZ K t E es c (f x)) : SMZ K t E es c (m1.bind f) := fun r e => by
  cases q : m1 with
  | none => rw [q] at e; cases e
  | some x => rw [q] at e; exact h x q r e
theorem smz_lt {α : Type} {e : α} {f : α → Option Str} (h : ∀ x, e = x → SMZ K t E es c (f x)) : SMZ K t E es c (lt e f) := h e rfl
theorem smz_one (h : SMZ K (tSeq t tNext) E es c m) : SMZ K t E es c m := h
theorem smz_as {v : TS} (h : SMZ K (tSeq t (tSeq u v)) E es c m) : SMZ K (tSeq (tSeq t u) v) E es c m := h
theorem smz_nil (h : SMZ K tz E es c m) : SMZ K (tSeq tNext tz) E es c m := h
theorem smz_es (e : es = es') (h : SMZ K t E es' c m) : SMZ K t E es c m := e ▸ h
theorem smz_wk {gs : List Sl} (w : Wk es gs) (h : SMZ K t E gs c m) : SMZ K t E es c m := fun r e F G H σ D s q => h r e F G H σ D (s.wk w) q
theorem smz_set {i : Nat} (h : Ev K te es d) (he : es.set i (.d d) = es') (k : SMZ K tz E es' c m) : SMZ K (tSeq (tAsg te (gName i)) tz) E es c m := fun r e F G H σ D s q =>
  h F G H σ s _ fun v G1 H1 s1 g1 r1 => k r e F G1 H1 _ D (he ▸ s1.set r1) (q.up g1)
theorem smz_asgG {g : TG} {vs : List Nat} (h : Ev K te es d) (hg : EvG K g vs es d es') (k : SMZ K tz E es' c m) : SMZ K (tSeq (tAsg te g) tz) E es c m := fun r e F G H σ D s q =>
  h F G H σ s _ fun v G1 H1 s1 g1 r1 => hg F G1 H1 σ v s1 r1 _ fun σ' G2 H2 s2 g2 _ _ => k r e F G2 H2 σ' D s2 (q.up (g1.trans g2))
theorem smz_if {b : Bool} (h : EvT K tt es b) (h1 : b = true → SMZ K (tSeq t tz) E es c p) (h2 : b = false → SMZ K (tSeq u tz) E es c q) : SMZ K (tSeq (tIfS tt t u) tz) E es c (if b = true then p else q) := fun r e F G H σ D s k =>
  h F G H σ s _ fun G1 H1 s1 g1 => by
    cases b with
    | true =>
      show t _ σ H1
      exact h1 rfl r e F G1 H1 σ D s1 (k.up g1)
    | false =>
      show u _ σ H1
      exact h2 rfl r e F G1 H1 σ D s1 (k.up g1)
theorem smz_raise {f : Str} : SMZ K (tSeq (tRaiseP (fun cls d _ H => E cls d H) c) tz) E es c (some f) := fun r e F G H σ D s q => q G H s.f s.g s.dj (Same.refl _)
theorem smz_asgE {g : TG} (hx : ∀ f, x = some f → XvZ K te E es c) : SMZ K (tSeq (tAsg te g) tz) E es c x := fun f e F G H σ D s q => hx f e F G H σ s q _
theorem smz_dropE (hx : ∀ f, x = some f → XvZ K te E es c) : SMZ K (tSeq (tDrop te) tz) E es c x := fun f e F G H σ D s q => hx f e F G H σ s q _
theorem smz_retE (hx : ∀ f, x = some f → XvZ K te E es c) : SMZ K (tSeq (tRet te) tz) E es c x := fun f e F G H σ D s q => hx f e F G H σ s q _
theorem smz_or (h1 : SMZ K t E es c x) (h2 : x = none → SMZ K t E es c m) : SMZ K t E es c (tryX x some m) := fun f e => by
  cases x with
  | none => exact h2 rfl f e
  | some g => exact h1 f e
theorem smz_setM {i : Nat} (h : EvM K te es es1 d) (he : es1.set i (.d d) = es') (k : SMZ K tz E es' c m) : SMZ K (tSeq (tAsg te (gName i)) tz) E es c m := fun r e F G H σ D s q =>
  h F G H σ s _ fun v G1 H1 s1 g1 r1 => k r e F G1 H1 _ D (he ▸ s1.set r1) (q.up g1)
theorem smz_fld {i : Nat} {o : Option Addr} {C : Addr} {fs : List (Str × Dt)} {f : Str} (hi : es[i]? = some (.obo o C fs)) (h : Ev K te es d) (hc : Cls K C) (hn : NoAttr K C f) (hl : fs.length < 900) (he : es.set i (.obo o C (putD f d fs)) = es') (k : SMZ K tz E es' c m) : SMZ K (tSeq (sFld K (tVar i) te f) tz) E es c m := fun r e F G H σ D s q => by
  refine h F G H σ s _ fun v G1 H1 s1 g1 r1 => ?_
  obtain ⟨ow, ho, p, dx, vs, eo, g, ff, hp, rr, an⟩ := s1.sl i _ hi
  subst eo
  refine ⟨.ref p, ho, p, C, dx, vs, rfl, hp, hc, hn, by rw [rr.length]; omega, ?_⟩
  exact k r e F G1 _ σ D (he ▸ s1.write hi rfl rfl ho ⟨p, dx, putF f v vs, rfl, g, ff, upd_same, repF_put r1 rr, an⟩ g ff) (q.up g1)
theorem smz_dropM (h : EvM K te es es1 d) (k : SMZ K tz E es1 c m) : SMZ K (tSeq (tDrop te) tz) E es c m := fun r e F G H σ D s q =>
  h F G H σ s _ fun v G1 H1 s1 g1 r1 => k r e F G1 H1 _ D s1 (q.up g1)
theorem smz_ownO {i : Nat} {fs : List (Str × Dt)} (h : EvOb K te es C fs) (he : es.set i (.obo none C fs) = es') (k : SMZ K tz E es' c m) : SMZ K (tSeq (tAsg te (gName i)) tz) E es c m := fun r e F G H σ D s q =>
  h F G H σ s _ fun p dx vs G1 H1 s1 hF g1 r1 => k r e F G1 H1 _ D (he ▸ s1.takeO hF r1) (q.up g1)
/-! expressions -/
theorem xza_hd (h : XvZ K te E es c) : XvZA K (tCons te ta) E es c := fun F G H σ s q Q => h F G H σ s q _
theorem xza_tl (ha : EvM K te es es1 a) (h : XvZA K ta E es1 c) : XvZA K (tCons te ta) E es c := fun F G H σ s q Q =>
  ha F G H σ s _ fun v G1 H1 s1 g1 r1 => h F G1 H1 σ s1 (q.up g1) _
theorem xz_tup (h : XvZA K ta E es c) : XvZ K (tTup ta) E es c := fun F G H σ s q Q => h F G H σ s q _
theorem GoodZ.rem {F G G1 H1 : Hp} {σ : L2.St} (q : GoodZ F G E c) (s1 : Stt K F G1 H1 σ es) (g : Same G G1) : GoodZ (DL.rem G1 H1) G1 E c := fun G' H' a b d e => by
  have s2 := s1.after a b d e
  exact q G' H' s2.f s2.g s2.dj (g.trans e)
theorem xz_call {R : List Dt → Addr → Prop} {sp : Sp} (ha : EvA K ta es ds) (hP : R ds c) : XvZ K (tCall (spOr sp (FSpecZ K (ZD R))) [] E ta) E es c := fun F G H σ s q Q =>
  ha F G H σ s _ fun vs G1 H1 s1 g1 r1 => by
    rw [List.append_nil]
    exact .inr ⟨DL.rem G1 H1, G1, ds.map .d, c, stt_data s1.rem.1 s1.g s1.rem.2 r1, ⟨_, rfl, hP⟩, q.rem s1 g1⟩
theorem ev_callZ {P : List Dt → Dt → Prop} {sp : Sp} (ha : EvA K ta es ds) (hP : P ds d) : Ev K (tCall (spOr (FSpec K (RD P)) sp) [] E ta) es d := fun F G H σ s Q q =>
  ha F G H σ s _ fun vs G1 H1 s1 g1 r1 => by
    rw [List.append_nil]
    exact .inl ⟨DL.rem G1 H1, G1, ds.map .d, d, ds.map .d, stt_data s1.rem.1 s1.g s1.rem.2 r1, ⟨_, rfl, rfl, hP⟩, fun v G2 H2 s2 g2 r2 => q v G2 H2 (s1.after s2.f s2.g s2.dj g2) (g1.trans g2) r2⟩
/-- the call itself, the object at p0 -/
theorem raisedZ {P : List (Str × Dt) → List Dt → Addr → Prop} {i : Nat} {a : Option Addr} {F G H1 : Hp} {σ : L2.St} {p : Addr} {vs : List V} {Q : VK} (s1 : Stt K F G H1 σ es1) (ho : σ[i]? = some (some (.ref p))) (hi : es1[i]? = some (.obo a C us)) (hP : P us ds c) (r1 : Reps K G vs ds) (q : GoodZ F G E c) : FSpecZ K (ZO C P) (.ref p :: vs) H1 Q E := by
  obtain ⟨o1, ho1, p1, dx1, ws, e1, gp, fp, hp, rr, an⟩ := s1.sl i _ hi
  subst e1
  rw [ho] at ho1
  obtain rfl : p = p1 := by cases ho1; rfl
  have pp : remP G H1 p p = none := by
    unfold remP
    rw [if_pos rfl]
  refine ⟨remP G H1 p, G, .obo (some p) C us :: ds.map .d, c, obo_data (fun x o e => (remP_some e).2.1) s1.g (fun x o e => (remP_some e).2.2) gp pp hp rr r1, ⟨p, us, ds, rfl, hP⟩, fun G2 H2 a1 a2 a3 a4 => ?_⟩
  have up : ∀ x o, F x = some o → remP G H1 p x = some o := fun x o e => by
    have ne : x ≠ p := by rintro rfl; rw [fp] at e; cases e
    rw [remP_of ne (s1.dj x o e)]
    exact s1.f x o e
  exact q G2 H2 (fun x o e => a1 x o (up x o e)) a2 (fun x o e => a3 x o (up x o e)) a4
theorem xz_meth {P : List (Str × Dt) → List Dt → Addr → Prop} {sp : Sp} {i : Nat} {a a0 : Option Addr} {m : Str} (hi0 : es[i]? = some (.obo a0 C us0)) (hm : us0.lookup m = none) (ha : EvMA K ta es es1 ds) (hi : es1[i]? = some (.obo a C us)) (hP : P us ds c) :
    XvZ K (tMeth C m (spOr sp (FSpecZ K (ZO C P))) [] E (tVar i) ta) E es c := fun F G H σ s q Q => by
  obtain ⟨o0, ho0, p0, dx0, ws0, e0, g0, f0, h0, r0, an0⟩ := s.sl i _ hi0
  subst e0
  refine ⟨_, ho0, p0, dx0, ws0, rfl, h0, r0.lookup_none hm, ha F G H σ s _ fun vs G1 H1 s1 g1 r1 => ?_⟩
  rw [List.append_nil]
  exact .inr (raisedZ s1 ho0 hi hP r1 (q.up g1))
/-- C(..) raises in its __init__ -/
theorem xz_make {R : List Dt → Addr → Prop} {sp : Sp} (ha : EvA K ta es ds) (hP : R ds c) : XvZ K (tMake C (spOr sp (FSpecZ K (ZI C R))) [] E ta) E es c := fun F G H σ s q Q =>
  ha F G H σ s _ fun vs G1 H1 s1 g1 r1 x dx hx hdx ne => by
    rw [List.append_nil]
    have hx1 : upd H1 dx (.own x) x = none := by
      rw [upd_ne (fun z => ne z.symm)]
      exact hx
    have s2 : Stt K F G1 (upd (upd H1 dx (.own x)) x (.ins C dx [])) σ es := (s1.lay hdx).lay hx1
    have gx : G1 x = none := s1.gnone hx
    refine .inr ⟨fun a => if a = x then none else DL.rem G1 (upd (upd H1 dx (.own x)) x (.ins C dx [])) a, G1, .obo (some x) C [] :: ds.map .d, c, ?_, ⟨x, ds, rfl, hP⟩, fun G2 H2 a1 a2 a3 a4 => ?_⟩
    · refine obo_data (fun a o e => ?_) s2.g (fun a o e => ?_) gx (if_pos rfl) upd_same .nil r1
      · by_cases q : a = x
        · rw [if_pos q] at e; cases e
        · rw [if_neg q] at e; exact (rem_some e).1
      · by_cases q : a = x
        · rw [if_pos q] at e; cases e
        · rw [if_neg q] at e; exact (rem_some e).2
    · have up : ∀ a o, F a = some o → (if a = x then none else DL.rem G1 (upd (upd H1 dx (.own x)) x (.ins C dx [])) a) = some o := fun a o e => by
        have ea := s1.f a o e
        have ne1 : a ≠ x := by rintro rfl; rw [hx] at ea; cases ea
        have ne2 : a ≠ dx := by rintro rfl; rw [hdx] at ea; cases ea
        rw [if_neg ne1, rem_of (s1.dj a o e), upd_ne ne1, upd_ne ne2]
        exact ea
      exact q G2 H2 (fun a o e => a1 a o (up a o e)) a2 (fun a o e => a3 a o (up a o e)) (g1.trans a4)
end
section
variable {K : PySem.W.Frag} {E : XK} {es : List Sl} {ta : TA}
theorem ob_makeZ {P : List Dt → List (Str × Dt) → Prop} {sp : Sp} {C : Addr} {fs : List (Str × Dt)} {ds : List Dt} (ha : EvA K ta es ds) (hP : P ds fs) : EvOb K (tMake C (spOr (FSpec K (RI C P)) sp) [] E ta) es C fs := fun F G H σ s Q q =>
  ha F G H σ s _ fun vs G1 H1 s1 g1 r1 x dx hx hdx ne => by
    rw [List.append_nil]
    have hx1 : upd H1 dx (.own x) x = none := by
      rw [upd_ne (fun z => ne z.symm)]
      exact hx
    have s2 : Stt K F G1 (upd (upd H1 dx (.own x)) x (.ins C dx [])) σ es := (s1.lay hdx).lay hx1
    have gx : G1 x = none := s1.gnone hx
    have rx : ∀ a o, a ≠ x → rem G1 (upd (upd H1 dx (.own x)) x (.ins C dx [])) a = some o → rem G1 (upd (upd H1 dx (.own x)) x (.ins C dx [])) a = some o := fun _ _ _ e => e
    -- what is another's: all but the known and the new one
    refine .inl ⟨fun a => if a = x then none else rem G1 (upd (upd H1 dx (.own x)) x (.ins C dx [])) a, G1, .obo (some x) C [] :: ds.map .d, .non, .obo (some x) C fs :: ds.map .d, ?_, ⟨x, _, fs, rfl, rfl, rfl, hP⟩, ?_⟩
    · have base : Stt K (fun a => if a = x then none else rem G1 (upd (upd H1 dx (.own x)) x (.ins C dx [])) a) G1 (upd (upd H1 dx (.own x)) x (.ins C dx [])) (vs.map some) (ds.map .d) := by
        refine stt_data (fun a o e => ?_) s2.g (fun a o e => ?_) r1
        · by_cases q : a = x
          · rw [if_pos q] at e; cases e
          · rw [if_neg q] at e; exact (rem_some e).1
        · by_cases q : a = x
          · rw [if_pos q] at e; cases e
          · rw [if_neg q] at e; exact (rem_some e).2
      refine ⟨base.f, base.g, base.dj, by rw [List.map_cons, List.length_cons, List.length_cons, base.len], fun i t e => ?_, fun i j t u nij ei ej hi hj => ?_⟩
      · cases i with
        | zero =>
          cases e
          exact ⟨_, rfl, x, dx, [], rfl, gx, if_pos rfl, upd_same, .nil, fun q e => (Option.some.inj e).symm⟩
        | succ i => exact base.sl i t e
      · cases i with
        | zero =>
          cases j with
          | zero => exact absurd rfl nij
          | succ j =>
            have ej' : (ds.map Sl.d)[j]? = some u := ej
            rw [List.getElem?_map] at ej'
            cases q : ds[j]? with
            | none => rw [q] at ej'; cases ej'
            | some d => rw [q] at ej'; cases ej'; cases hj
        | succ i =>
          have ei' : (ds.map Sl.d)[i]? = some t := ei
          rw [List.getElem?_map] at ei'
          cases q : ds[i]? with
          | none => rw [q] at ei'; cases ei'
          | some d => rw [q] at ei'; cases ei'; cases hi
    · intro v G2 H2 s3 g3 r3
      cases r3
      obtain ⟨o, ho, p, dx', fv, eo, gp, fp, hp, rf, an⟩ := s3.sl 0 _ rfl
      cases ho
      cases eo
      refine ⟨rfl, ?_⟩
      have keep : ∀ a o, H1 a = some o → G1 a = none → H2 a = some o ∧ G2 a = none := fun a o e g => by
        have ax : a ≠ x := fun z => by subst z; rw [hx] at e; cases e
        have adx : a ≠ dx := fun z => by subst z; rw [hdx] at e; cases e
        have fa : (if a = x then none else rem G1 (upd (upd H1 dx (.own x)) x (.ins C dx [])) a) = some o := by
          rw [if_neg ax, rem_of g, upd_ne ax, upd_ne adx]
          exact e
        exact ⟨s3.f a o fa, s3.dj a o fa⟩
      have nex : ∀ a o, H1 a = some o → a ≠ x := fun a o e z => by subst z; rw [hx] at e; cases e
      have fx : F x = none := by
        cases q : F x with
        | none => rfl
        | some o => exact absurd rfl (nex x o (s1.f x o q))
      have s4 : Stt K (upd F x (.ins C dx' fv)) G2 H2 σ es :=
        { f := fun a o e => by
            by_cases q : a = x
            · subst q
              rw [upd_same] at e
              cases e
              exact hp
            · rw [upd_ne q] at e
              exact (keep a o (s1.f a o e) (s1.dj a o e)).1
          g := s3.g
          dj := fun a o e => by
            by_cases q : a = x
            · subst q
              exact gp
            · rw [upd_ne q] at e
              exact (keep a o (s1.f a o e) (s1.dj a o e)).2
          len := s1.len
          sl := fun i t e => by
            obtain ⟨y, hy, k⟩ := s1.sl i t e
            exact ⟨y, hy, k.grow g3 (fun q u hg _ e => (keep q u e hg).1) fun q hg ⟨u, hu⟩ hf => ⟨(keep q u hu hg).2, by rw [upd_ne (nex q u hu)]; exact hf⟩⟩
          ow := s1.ow }
      exact q x dx' fv G2 H2 s4 fx (g1.trans g3) rf
end
/-! a try whose call raises a plain exception -/
def XvZS (K : PySem.W.Frag) (tc : (L2.St → XK) → TE) (es : List Sl) (c : Addr) : Prop := ∀ F G H σ, Stt K F G H σ es → ∀ (Q : VK) (E : L2.St → XK),
  (∀ G' H', Stt K F G' H' σ es → Same G G' → E σ (.ref c) none H') → tc E σ H Q
section
variable {K : PySem.W.Frag} {es : List Sl} {ta : TA} {ds : List Dt} {c C1 : Addr} {ρ : Type}
theorem xzs_call {R : List Dt → Addr → Prop} {a : Sp} (ha : EvA K ta es ds) (hP : R ds c) : XvZS K (fun E => tCallS (spOr a (FSpecZ K (ZD R))) E ta) es c := fun F G H σ s Q E q =>
  ha F G H σ s _ fun vs G1 H1 s1 g1 r1 => .inr ⟨DL.rem G1 H1, G1, ds.map .d, c, stt_data s1.rem.1 s1.g s1.rem.2 r1, ⟨_, rfl, hP⟩, fun G2 H2 a1 a2 a3 a4 => q G2 H2 (s1.after a1 a2 a3 a4) (g1.trans a4)⟩
theorem sm_tryZ {R : Type} {env : Unit → List Sl} {ed : R → Dt} {ee : R → List Sl} {m hm : Option (Fl Unit R)} {tc : (L2.St → XK) → TE} {rest : TS} {ts : Addr → Value → Option Addr → TS} {i : Nat} {x : Option Str} (he : PySem.W.exmOne K (.ref c) (.ref C1) = some true) (hu : es[i]? = some .un) (he2 : (env ())[i]? = some .un)
    (hx : ∀ f, x = some f → XvZS K tc es c) (hn : x = none → ∀ E, SM K (tSeq (tDrop (tc E)) rest) es m (loopRes env ed ee)) (hh : ∀ a, SM K (ts a (.ref c) none) es hm (loopRes env ed ee)) :
    SM K (fun D σ H => (fun W => tSeq (tDrop (tc (WE W))) rest) (wN K D [(.ref C1, i, ts)]) D σ H) es (tryX x (fun _ => hm) m) (loopRes env ed ee) := fun r e F G H σ D s q => by
  cases x with
  | none => exact hn rfl _ r e F G H σ D s q
  | some f =>
    have e : hm = some r := e
    refine hx _ rfl F G H σ s _ _ fun G' H' s1 g1 => ⟨true, he, fun _ a ha => ?_, fun z => by cases z⟩
    have es' : es.set i .un = es := List.ext_getElem? fun k => by
      by_cases q : i = k
      · subst q
        rw [List.getElem?_set_self (List.getElem?_eq_some_iff.mp hu).1, hu]
      · rw [List.getElem?_set_ne q]
    have s2 : Stt K F G' H' (σ.set i (some (.ref a))) es := by
      have := s1.undo i (some (.ref a))
      rw [es'] at this
      exact this
    refine hh a r e F G' H' _ _ s2 ?_
    rcases lr_no (env := env) (ed := ed) (ee := ee) r with ⟨fs, w⟩ | ⟨d, fs, w⟩
    · have wi := lr_nx (ed := ed) (ee := ee) he2 r fs w
      rw [w] at q ⊢
      intro G2 H2 σ2 s3 g2
      refine q G2 H2 (σ2.set i none) ?_ (g1.trans g2)
      have := s3.undo i none
      have e3 : fs.set i .un = fs := List.ext_getElem? fun k => by
        by_cases q : i = k
        · subst q
          rw [List.getElem?_set_self (List.getElem?_eq_some_iff.mp wi).1, wi]
        · rw [List.getElem?_set_ne q]
      rw [e3] at this
      exact this
    · rw [w] at q ⊢
      intro v G2 H2 σ2 s3 g2 r2
      exact q v G2 H2 σ2 s3 (g1.trans g2) r2
end
end DL

/-! Dl33: dicts as data; a dict that is filled while its object is made -/
namespace L2
open PySem PySem.Spec PyProof.Rows
/-- enumerate(a list) -/
theorem pi_enumL {X : Cx} {e : Expr} {ta : TA} {p pos tpos : Pos} {elts : List Expr} {kk : Nat} (hg : Gl X "enumerate") (hm : X.mg "enumerate" = none) (ha : PA X [e] ta) (hs : starEach [e] X.env = [(false, eval e X.env)] := by rfl) :
    PI X (.Tuple elts kk tpos) (.Call (.Name "enumerate" p) [e] [] pos) (iEnumK X.K 0 ta) := by
  refine ⟨fun pins s σ H R I h => ?_⟩
  refine Call_ (ld_blt I hg hm boot_enumerate (PyProof.Rows.callWith_type1 (thn (ha.run pos pins s σ H _ I h) fun us s1 ⟨vs, H1, I1, r1, q1⟩ => ?_) hs rfl))
  obtain ⟨a, xs, ex, hq, q⟩ := q1
  subst ex
  cases r1 with
  | cons r rr =>
    cases rr
    cases r
    obtain ⟨its, rv, p', hz⟩ := I1.list hq
    have hal : a < s1.heap.objs.size := by
      obtain ⟨o, ho, _⟩ := p'.isList
      exact Heap.lt_size ho
    refine call_enumerate_list p'.isList fun h' he hit hsz hk => wpAny_pyIter_enum he ?_
    have I2 : Inv X pins σ H1 { s1 with heap := h' } := I1.kept (t' := s1.toks) hk
    refine ⟨s1.heap.objs.size + 1, [s1.heap.objs.size + 1, s1.heap.objs.size], _, _, H1, rfl, I2, turn_enumK 0 a (s1.heap.objs.size + 1) s1.heap.objs.size (Nat.ne_of_lt hal) (Nat.ne_of_lt (Nat.lt_succ_of_lt hal)), ⟨⟨.none, he⟩, hit, Nat.succ_ne_self _⟩, fun b hb => ?_, q⟩
    have e' : b = s1.heap.objs.size + 1 ∨ b = s1.heap.objs.size := by simpa using hb
    have hle : s1.heap.objs.size ≤ b := by
      rcases e' with z | z
      · rw [z]; exact Nat.le_add_right _ _
      · rw [z]; exact Nat.le_refl _
    exact I1.fpOk hle (I1.hok.fresh hle)
end L2
namespace DL
open PySem L2
section
variable {K : PySem.W.Frag} {H : Hp}
mutual
theorem rep_nk : ∀ {v : V} {d : Dt} {k : NestedKey}, Rep K H v d → keyD d = some k → NK K H k v
  | _, _, _, .non, e => by cases e; exact .non
  | _, _, _, .bl b, e => by cases e; exact .bl b
  | _, _, _, .int i, e => by cases e; exact .int i
  | _, _, _, .str s, e => by cases e; exact .str s
  | _, _, _, .ty n, e => by cases e
  | _, _, k, .tup (ds := ds) h r, e => by
    have e : (keyDs ds).map NestedKey.tup = some k := e
    cases q : keyDs ds with
    | none => rw [q] at e; cases e
    | some ks =>
      rw [q] at e
      cases e
      exact .tup h (reps_nk r q)
  | _, _, _, .lst h r, e => by cases e
  | _, _, _, .obj h r, e => by cases e
  | _, _, _, .dic h r, e => by cases e
theorem reps_nk : ∀ {vs : List V} {ds : List Dt} {ks : List NestedKey}, Reps K H vs ds → keyDs ds = some ks → NKs K H ks vs
  | _, _, _, .nil, e => by cases e; exact .nil
  | _, _, ks, .cons (d := d) (ds := ds) h r, e => by
    have e : (keyD d).bind (fun k => (keyDs ds).map fun ks => k :: ks) = some ks := e
    cases q : keyD d with
    | none => rw [q] at e; cases e
    | some k =>
      cases q2 : keyDs ds with
      | none => rw [q, q2] at e; cases e
      | some l =>
        rw [q, q2] at e
        cases e
        exact .cons (rep_nk h q) (reps_nk r q2)
end
end
/-- a key that is no deeper than 8 -/
def nkC (d : Dt) : Option NestedKey := (keyD d).bind fun k => if k.depth ≤ 8 then some k else none
theorem nkC_of {d : Dt} {k : NestedKey} (h : nkC d = some k) : keyD d = some k ∧ k.depth ≤ 8 := by
  unfold nkC at h
  cases q : keyD d with
  | none => rw [q] at h; cases h
  | some j =>
    rw [q] at h
    have h : (if j.depth ≤ 8 then some j else none) = some k := h
    obtain ⟨a, b⟩ := ite_some h
    exact ⟨congrArg some b, b ▸ a⟩
def hasD (kvs : List (Dt × Dt)) (k : NestedKey) : Bool := kvs.any fun p => decide (keyD p.1 = some k)
def putK2 (kvs : List (Dt × Dt)) (k : NestedKey) (kd d : Dt) : List (Dt × Dt) := if hasD kvs k = true then kvs.map fun p => if keyD p.1 = some k then (p.1, d) else p else kvs ++ [(kd, d)]
section
variable {K : PySem.W.Frag} {G H : Hp}
theorem repK_has {k : NestedKey} : ∀ {xs : NX} {kvs : List (Dt × Dt)}, RepK K G xs kvs → hasN xs k = hasD kvs k
  | _, _, .nil => rfl
  | _, _, .cons (k := j) a _ _ _ r => by
    have ih := repK_has (k := k) r
    unfold hasN hasD at ih ⊢
    rw [List.any_cons, List.any_cons, ih]
    congr 1
    dsimp only
    rw [a]
    by_cases h : j = k
    · rw [decide_eq_true h, decide_eq_true (congrArg some h)]
    · rw [decide_eq_false h, decide_eq_false fun z => h (Option.some.inj z)]
theorem repK_all : ∀ {xs : NX} {kvs : List (Dt × Dt)}, RepK K G xs kvs → Same G H → AllK K H xs
  | _, _, .nil, _ => fun x hx => nomatch hx
  | _, _, .cons a b c d r, g => fun x hx => by
    rcases List.mem_cons.mp hx with rfl | hx
    · exact ⟨rep_nk (c.mono g) a, b⟩
    · exact repK_all r g x hx
theorem repK_map {k : NestedKey} {v : V} {d : Dt} (rv : Rep K G v d) : ∀ {xs : NX} {kvs : List (Dt × Dt)}, RepK K G xs kvs → RepK K G (xs.map fun x => if x.1 = k then (x.1, x.2.1, v) else x) (kvs.map fun p => if keyD p.1 = some k then (p.1, d) else p)
  | _, _, .nil => .nil
  | _, _, .cons (k := j) a b c e r => by
    rw [List.map_cons, List.map_cons]
    dsimp only
    by_cases h : j = k
    · rw [if_pos h, if_pos (a.trans (congrArg some h))]
      exact .cons a b c rv (repK_map rv r)
    · rw [if_neg h, if_neg fun z => h (Option.some.inj (a.symm.trans z))]
      exact .cons a b c e (repK_map rv r)
theorem repK_snoc {k : NestedKey} {b : Addr} {v : V} {kd d : Dt} (hk : keyD kd = some k) (h8 : k.depth ≤ 8) (rk : Rep K G (.ref b) kd) (rv : Rep K G v d) : ∀ {xs : NX} {kvs : List (Dt × Dt)}, RepK K G xs kvs → RepK K G (xs ++ [(k, b, v)]) (kvs ++ [(kd, d)])
  | _, _, .nil => .cons hk h8 rk rv .nil
  | _, _, .cons a b c e r => .cons a b c e (repK_snoc hk h8 rk rv r)
theorem repK_put {k : NestedKey} {b : Addr} {v : V} {kd d : Dt} {xs : NX} {kvs : List (Dt × Dt)} (r : RepK K G xs kvs) (hk : keyD kd = some k) (h8 : k.depth ≤ 8) (rk : Rep K G (.ref b) kd) (rv : Rep K G v d) : RepK K G (putN xs k b v) (putK2 kvs k kd d) := by
  unfold putN putK2
  rw [repK_has (k := k) r]
  split
  · exact repK_map rv r
  · exact repK_snoc hk h8 rk rv r
end
section
variable {K : PySem.W.Frag} {es : List Sl} {ta tb : TE} {w : World} {ds : List Dt} {kvs : List (Dt × Dt)} {k : NestedKey}
theorem ev_nin {neg : Bool} (ha : Ev K ta es (.tup ds)) (hb : Ev K tb es (.dic w kvs)) (hk : nkC (.tup ds) = some k) : Ev K (tOp (rNin K w neg) ta tb) es (.bl (if neg then !hasD kvs k else hasD kvs k)) := fun F G H σ s Q q =>
  ha F G H σ s _ fun x G1 H1 s1 g1 r1 => hb F G1 H1 σ s1 _ fun y G2 H2 s2 g2 r2 => by
    obtain ⟨k1, k2⟩ := nkC_of hk
    have r1 := (r1.mono g2).mono s2.g
    have n1 := rep_nk r1 k1
    cases r2 with
    | dic h r =>
      have rr := repK_all r s2.g
      rw [← repK_has (k := k) r] at *
      cases r1 with
      | tup h2 r2 => exact ⟨k, _, _, _, rfl, n1, k2, rfl, s2.g _ _ h, rr, q _ G2 H2 s2 (g1.trans g2) (.bl _)⟩
end
section
variable {K : PySem.W.Frag} {F G H F' G' H' : Hp} {σ σ' : L2.St} {es es' : List Sl} {p : Addr}
theorem Stt.leaveU {F G H : Hp} {σ : L2.St} {i : Nat} {p : Addr} {u0 : HO} {t : Sl} (s : Stt K F G H σ es) (hi : es[i]? = some t) (ht : t.isOwn = true) (ho : σ[i]? = some (some (.ref p))) (hp : H p = some u0) (gp : G p = none) : Stt K (upd F p u0) G H σ (es.set i .un) where
  f := fun a u e => by
    by_cases z : a = p
    · subst z
      rw [upd_same] at e
      exact hp.trans e
    · rw [upd_ne z] at e
      exact s.f a u e
  g := s.g
  dj := fun a u e => by
    by_cases z : a = p
    · subst z
      exact gp
    · rw [upd_ne z] at e
      exact s.dj a u e
  len := by rw [List.length_set]; exact s.len
  sl := fun j u e => by
    by_cases q : i = j
    · subst q
      have hj : i < es.length := (List.getElem?_eq_some_iff.mp hi).1
      rw [List.getElem?_set_self hj] at e
      cases e
      exact ⟨_, ho, trivial⟩
    · rw [List.getElem?_set_ne q] at e
      obtain ⟨x, hx, k⟩ := s.sl j u e
      refine ⟨x, hx, ?_⟩
      cases u with
      | un => trivial
      | d y => exact k
      | own a xs =>
        obtain ⟨p', vs', e', g', f', hp', r', an'⟩ := k
        have ne : p' ≠ p := fun z => s.ow i j t _ q hi e ht rfl (by rw [ho, hx, e', z])
        exact ⟨p', vs', e', g', by rw [upd_ne ne]; exact f', hp', r', an'⟩
      | obo a C fs =>
        obtain ⟨p', dx', vs', e', g', f', hp', r', an'⟩ := k
        have ne : p' ≠ p := fun z => s.ow i j t _ q hi e ht rfl (by rw [ho, hx, e', z])
        exact ⟨p', dx', vs', e', g', by rw [upd_ne ne]; exact f', hp', r', an'⟩
  ow := fun a b u w ne ea eb ha hb => by
    have no : ∀ (k : Nat) (z : Sl), (es.set i Sl.un)[k]? = some z → z.isOwn = true → es[k]? = some z := fun k z e h => by
      by_cases q : i = k
      · subst q
        have hj : i < es.length := (List.getElem?_eq_some_iff.mp hi).1
        rw [List.getElem?_set_self hj] at e
        cases e
        cases h
      · rwa [List.getElem?_set_ne q] at e
    exact s.ow a b u w ne (no a u ea ha) (no b w eb hb) ha hb
theorem Stt.takeP {C : Addr} {dx : Addr} {vs : List (Str × V)} {fs : List (Str × Dt)} {i : Nat} (s : Stt K (upd F p (.ins C dx vs)) G H σ es) (hF : F p = none) (r : RepF K G vs fs) : Stt K F G H (σ.set i (some (.ref p))) (es.set i (.obo (some p) C fs)) := by
  have gp : G p = none := s.dj p _ upd_same
  have hp : H p = some (.ins C dx vs) := s.f p _ upd_same
  have up : ∀ {q : Addr} {u : HO}, F q = some u → upd F p (.ins C dx vs) q = some u := fun {q u} e => by rw [upd_ne (ne_of_none e hF)]; exact e
  refine ⟨fun a u e => s.f a u (up e), s.g, fun a u e => s.dj a u (up e), by rw [List.length_set, List.length_set]; exact s.len, fun j t e => ?_, fun a b t u ne ea eb ha hb => ?_⟩
  · by_cases q : i = j
    · subst q
      have hj : i < es.length := by
        have := (List.getElem?_eq_some_iff.mp e).1
        rwa [List.length_set] at this
      rw [List.getElem?_set_self hj] at e
      cases e
      exact ⟨_, List.getElem?_set_self (by rw [s.len]; exact hj), p, dx, vs, rfl, gp, hF, hp, r, fun q e => (Option.some.inj e).symm⟩
    · rw [List.getElem?_set_ne q] at e
      rw [List.getElem?_set_ne q]
      obtain ⟨x, hx, k⟩ := s.sl j t e
      exact ⟨x, hx, k.grow (Same.refl _) (fun q u _ _ e => e) fun q g _ f => ⟨g, (upd_none f).2⟩⟩
  · have other : ∀ j z, i ≠ j → (es.set i (.obo (some p) C fs))[j]? = some z → z.isOwn = true → σ[j]? ≠ some (some (.ref p)) := fun j z nj ej hz q => by
      rw [List.getElem?_set_ne nj] at ej
      obtain ⟨x, hx, k⟩ := s.sl j z ej
      rw [hx] at q
      cases q
      cases z with
      | un => cases hz
      | d x => cases hz
      | own a xs =>
        obtain ⟨p', vs', e, _, f, _⟩ := k
        cases e
        rw [upd_same] at f
        cases f
      | obo a C' fs' =>
        obtain ⟨p', dx', vs', e, _, f, _⟩ := k
        cases e
        rw [upd_same] at f
        cases f
    by_cases na : i = a
    · subst na
      have hj : i < es.length := by
        have := (List.getElem?_eq_some_iff.mp ea).1
        rwa [List.length_set] at this
      rw [List.getElem?_set_self (by rw [s.len]; exact hj), List.getElem?_set_ne ne]
      exact fun q => other b u ne eb hb q.symm
    · by_cases nb : i = b
      · subst nb
        have hj : i < es.length := by
          have := (List.getElem?_eq_some_iff.mp eb).1
          rwa [List.length_set] at this
        rw [List.getElem?_set_self (by rw [s.len]; exact hj), List.getElem?_set_ne na]
        exact other a t na ea ha
      · rw [List.getElem?_set_ne na] at ea ⊢
        rw [List.getElem?_set_ne nb] at eb ⊢
        exact s.ow a b t u ne ea eb ha hb
theorem upd_swap {F : Hp} {p q : Addr} {a b : HO} (h : p ≠ q) : upd (upd F q b) p a = upd (upd F p a) q b := funext fun x => by
  by_cases e : x = p
  · subst e
    rw [upd_same, upd_ne h, upd_same]
  · rw [upd_ne e]
    by_cases e2 : x = q
    · subst e2
      rw [upd_same, upd_same]
    · rw [upd_ne e2, upd_ne e2, upd_ne e]
end
/-- an object is made, a dict of its own is filled -/
structure DSt (K : PySem.W.Frag) (w : World) (F G H : Hp) (σ : L2.St) (es : List Sl) (i : Nat) (p C dx : Addr) (vs : List (Str × V)) (f : Str) (q : Addr) (xs : NX) (kvs : List (Dt × Dt)) : Prop where
  s : Stt K (upd (upd F p (.ins C dx vs)) q (NDO w q xs)) G H σ es
  o : σ[i]? = some (some (.ref p))
  fp : F p = none
  fq : F q = none
  pq : p ≠ q
  b : vs.lookup f = some (.ref q)
  k : RepK K G xs kvs
section
variable {K : PySem.W.Frag} {w : World} {F G H : Hp} {σ : L2.St} {es : List Sl} {i : Nat} {p C dx q : Addr} {vs : List (Str × V)} {f : Str} {xs : NX} {kvs : List (Dt × Dt)} {te tk : TE} {d : Dt} {ds : List Dt} {k : NestedKey}
theorem dset (S : DSt K w F G H σ es i p C dx vs f q xs kvs) (hv : Ev K te es d) (hk : Ev K tk es (.tup ds)) (hn : nkC (.tup ds) = some k) (hl : xs.length < sizeLine) (hc : Cls K C) (hna : NoAttr K C f) {D : Ends}
    (cont : ∀ G' H' xs', DSt K w F G' H' σ es i p C dx vs f q xs' (putK2 kvs k (.tup ds) d) → Same G G' → xs'.length ≤ xs.length + 1 → D.nx σ H') : tAsg te (gSub (tFld K (tVar i) f) tk (rSetN K w)) D σ H := by
  obtain ⟨s, o, fp, fq, pq, b, r⟩ := S
  refine hv _ G H σ s _ fun v G1 H1 s1 g1 r1 => ⟨.ref p, o, p, C, dx, vs, .ref q, rfl, s1.f p _ (by rw [upd_ne pq, upd_same]), hc, hna, b, ?_⟩
  refine hk _ G1 H1 σ s1 _ fun kv G2 H2 s2 g2 r2 => ?_
  obtain ⟨k1, k2⟩ := nkC_of hn
  have n1 := rep_nk (r2.mono s2.g) k1
  have rr := r.mono (g1.trans g2)
  cases hr2 : r2 with
  | tup h2 r3 =>
    refine ⟨q, xs, k, _, rfl, s2.f q _ upd_same, repK_all rr s2.g, rfl, n1, k2, hl, ?_⟩
    exact cont G2 _ _ ⟨s2.reprot, o, fp, fq, pq, b, repK_put rr k1 k2 r2 (r1.mono g2)⟩ (g1.trans g2) putN_len
end
theorem lookup_putF {f : Str} {v : V} : ∀ {vs : List (Str × V)}, (putF f v vs).lookup f = some v
  | [] => by
    unfold putF
    rw [List.lookup_cons, beq_self_eq_true]
  | (g, e) :: r => by
    unfold putF
    by_cases h : g = f
    · rw [if_pos h, h, List.lookup_cons, beq_self_eq_true]
    · rw [if_neg h, List.lookup_cons]
      have : (f == g) = false := beq_eq_false_iff_ne.mpr (Ne.symm h)
      rw [this]
      exact lookup_putF
theorem set_same {α : Type} {xs : List α} {i : Nat} {x : α} (h : xs[i]? = some x) : xs.set i x = xs := List.ext_getElem? fun k => by
  by_cases q : i = k
  · subst q
    rw [List.getElem?_set_self (List.getElem?_eq_some_iff.mp h).1, h]
  · rw [List.getElem?_set_ne q]
section
variable {K : PySem.W.Frag} {ρ α : Type} {em : α → Dt} {items : List α} {a : Option Addr} {C p0 : Addr} {fs : List (Str × Dt)} {i : Nat} {f : Str} {w : World} {es env es' : List Sl} {en : α → List Sl} {vs : List Nat} {wi : TI} {g : TG} {tv1 tv2 tk1 tk2 : TE} {d : Dt} {e1 e2 : α → List Dt} {kvs : List (Dt × Dt)} {m : Option ρ} {oc : ρ → Res} {tz : TS}
/-- self.f = {} / for x in items: self.f[k1] = d; self.f[k2] = d -/
theorem sm_dfill (hobo : es[i]? = some (.obo (some p0) C fs)) (hc : Cls K C) (hna : NoAttr K C f) (hfs : fs.length < 900)
    (hi : EvI K wi (es.set i .un) (items.map em)) (w0 : Wk (es.set i .un) env)
    (hg : ∀ x, EvG K g vs env (em x) (en x)) (hvs : i ∉ vs) (hb : ∀ x, Wk (en x) env)
    (hv1 : ∀ x, Ev K tv1 (en x) d) (hk1 : ∀ x, Ev K tk1 (en x) (.tup (e1 x))) (hv2 : ∀ x, Ev K tv2 (en x) d) (hk2 : ∀ x, Ev K tk2 (en x) (.tup (e2 x)))
    (hm : forL items ([] : List (Dt × Dt)) (fun x s => (nkC (.tup (e1 x))).bind fun k1 => (nkC (.tup (e2 x))).bind fun k2 => some (putK2 (putK2 s k1 (.tup (e1 x)) d) k2 (.tup (e2 x)) d)) = some kvs)
    (hlen : items.length ≤ 5000000) (he : env.set i (.obo (some p0) C (putD f (.dic w kvs) fs)) = es') (k : SM K tz es' m oc) :
    SM K (tSeq (sFld K (tVar i) (tDNewN w) f) (tSeq (tFor wi g (tSeq (tAsg tv1 (gSub (tFld K (tVar i) f) tk1 (rSetN K w))) (tSeq (tAsg tv2 (gSub (tFld K (tVar i) f) tk2 (rSetN K w))) tNext))) tz)) es m oc := fun r e F G H σ D s q => by
  obtain ⟨o, ho, p, dx, ws, eo, gp, fp, hp, rr, an⟩ := s.sl i _ hobo
  subst eo
  obtain rfl : p0 = p := an p0 rfl
  refine fun qd hq => ?_
  have pq : p0 ≠ qd := fun z => by rw [← z, hp] at hq; cases hq
  refine ⟨.ref p0, ho, p0, C, dx, ws, rfl, by rw [upd_ne pq]; exact hp, hc, hna, by rw [rr.length]; omega, ?_⟩
  have s1 := s.leaveU hobo rfl ho hp gp
  have s2 := s1.prot (o := NDO w qd []) hq
  rw [← upd_swap pq] at s2
  have s3 := s2.reprot (o' := .ins C dx (putF f (.ref qd) ws))
  rw [upd_swap pq] at s3
  have fq := s.fnone hq
  refine hi _ G _ σ s3 _ fun J G1 H1 s4 g1 y => ?_
  refine ⟨fun n mm σ' H' => ∃ G' xs kv, DSt K w F G' H' σ' env i p0 C dx (putF f (.ref qd) ws) f qd xs kv ∧ Same G1 G' ∧ mm = items.length - n ∧ n ≤ items.length ∧ xs.length ≤ 2 * n ∧ forL (items.drop n) kv (fun x s => (nkC (.tup (e1 x))).bind fun k1 => (nkC (.tup (e2 x))).bind fun k2 => some (putK2 (putK2 s k1 (.tup (e1 x)) d) k2 (.tup (e2 x)) d)) = some kvs, ⟨_, G1, [], [], ⟨s4.wk w0, ho, fp, fq, pq, lookup_putF, .nil⟩, Same.refl _, rfl, Nat.zero_le _, Nat.zero_le _, hm⟩, ?_⟩
  rintro n mm σ' H' ⟨G', xs, kv, S, g', rfl, hle, hx, e'⟩
  by_cases hlt : n < items.length
  · refine .inr ?_
    have hd : items.drop n = items[n] :: items.drop (n + 1) := List.drop_eq_getElem_cons hlt
    rw [hd] at e'
    obtain ⟨go, yld⟩ := (y n _ G' H' σ' env g' S.s).1 (em items[n]) (by rw [List.getElem?_map, List.getElem?_eq_getElem hlt]; rfl)
    generalize items[n] = x at *
    have e' : ((nkC (.tup (e1 x))).bind fun k1 => (nkC (.tup (e2 x))).bind fun k2 => some (putK2 (putK2 kv k1 (.tup (e1 x)) d) k2 (.tup (e2 x)) d)).bind _ = some kvs := e'
    cases q1 : nkC (.tup (e1 x)) with
    | none => rw [q1] at e'; cases e'
    | some k1 =>
      cases q2 : nkC (.tup (e2 x)) with
      | none => rw [q1, q2] at e'; cases e'
      | some k2 =>
        rw [q1, q2] at e'
        refine ⟨go, fun σ2 H2 => ∃ G2 xs2, DSt K w F G2 H2 σ2 env i p0 C dx (putF f (.ref qd) ws) f qd xs2 (putK2 (putK2 kv k1 (.tup (e1 x)) d) k2 (.tup (e2 x)) d) ∧ Same G1 G2 ∧ xs2.length ≤ 2 * (n + 1), fun σ2 H2 ⟨G2, xs2, a1, a2, a3⟩ => ⟨items.length - (n + 1), by omega, G2, xs2, _, a1, a2, rfl, by omega, a3, e'⟩, fun xv H2 hy => ?_⟩
        obtain ⟨G2, st2, g2, rx⟩ := yld xv H2 hy
        refine hg x _ G2 H2 σ' xv st2 rx _ fun σ3 G3 H3 st3 g3 _ keep => ?_
        have sz : (10000000 : Nat) < sizeLine := by decide
        have S3 : DSt K w F G3 H3 σ3 (en x) i p0 C dx (putF f (.ref qd) ws) f qd xs kv := ⟨st3, by rw [keep i hvs]; exact S.o, S.fp, S.fq, S.pq, S.b, S.k.mono (g2.trans g3)⟩
        refine dset S3 (hv1 x) (hk1 x) q1 (by omega) hc hna fun G4 H4 xs4 S4 g4 l4 => ?_
        refine dset S4 (hv2 x) (hk2 x) q2 (by omega) hc hna fun G5 H5 xs5 S5 g5 l5 => ?_
        exact ⟨G5, xs5, ⟨S5.s.wk (hb x), S5.o, S5.fp, S5.fq, S5.pq, S5.b, S5.k⟩, g'.trans (g2.trans (g3.trans (g4.trans g5))), by omega⟩
  · have e3 : n = items.length := by omega
    subst e3
    refine .inl ⟨(y items.length _ G' H' σ' env g' S.s).2 (by simp), ?_⟩
    rw [List.drop_length] at e'
    cases e'
    have gq : G' qd = none := S.s.dj qd _ upd_same
    have s5 := S.s.give (by rw [upd_ne (Ne.symm pq)]; exact fq)
    have gg := g1.trans (g'.trans (same_upd (o := NDO w qd xs) gq))
    have s6 := s5.takeP (i := i) fp (repF_put (f := f) (.dic (w := w) (xs := xs) upd_same (S.k.mono (same_upd gq))) (rr.mono gg))
    rw [set_same S.o] at s6
    exact k r e F _ H' σ' D (he ▸ s6) (q.up gg)
end
section
variable {K : PySem.W.Frag} {es es1 es' : List Sl} {ρ : Type} {tz : TS} {m : Option ρ} {oc : ρ → Res} {te : TE} {d : Dt} {g : TG} {vs : List Nat}
theorem sm_asgGM (h : EvM K te es es1 d) (hg : EvG K g vs es1 d es') (k : SM K tz es' m oc) : SM K (tSeq (tAsg te g) tz) es m oc := fun r e F G H σ D s q =>
  h F G H σ s _ fun v G1 H1 s1 g1 r1 => hg F G1 H1 σ v s1 r1 _ fun σ' G2 H2 s2 g2 _ _ => k r e F G2 H2 σ' D s2 (q.up (g1.trans g2))
end
section
variable {K : PySem.W.Frag} {es : List Sl} {ta tb : TE} {D d : Dt} {i : Int}
theorem ev_ixR (ha : Ev K ta es D) (hb : Ev K tb es (.int i)) (h : ∃ ds, D = .tup ds ∧ atI ds i = some d) : Ev K (tOp (rIxT K) ta tb) es d := by
  obtain ⟨ds, rfl, e⟩ := h
  exact ev_ixT ha hb e
end
def szC {α : Type} (xs : List α) : Option Unit := if xs.length ≤ 5000000 then some () else none
theorem szC_of {α : Type} {xs : List α} {z : Unit} (h : szC xs = some z) : xs.length ≤ 5000000 := (ite_some h).1
section
variable {K : PySem.W.Frag} {es es1 : List Sl} {te : TE}
theorem eim_list {ds : List Dt} (h : EvM K te es es1 (.lst ds)) : EvIM K (iList K te) es es1 ds := fun F G H σ s R q => h F G H σ s _ fun v G1 H1 s1 g1 r1 => by
  cases r1 with
  | lst hs r =>
    refine ⟨_, rfl, ⟨_, s1.g.seq hs⟩, q _ G1 H1 s1 g1 fun i F2 G2 H2 σ2 es2 g2 s2 => ⟨fun d e => ?_, fun e => ⟨_, s2.g.seq (g2.seq hs), by rw [r.length]; exact e⟩⟩⟩
    obtain ⟨v, hv, rv⟩ := r.get e
    refine ⟨⟨_, v, s2.g.seq (g2.seq hs), hv⟩, fun x H3 y => ?_⟩
    obtain ⟨e1, y2⟩ := y
    subst e1
    have := (y2 _ (s2.g.seq (g2.seq hs))).symm.trans hv
    cases this
    exact ⟨G2, s2, Same.refl _, rv.mono g2⟩
theorem eim_tup {ds : List Dt} (h : EvM K te es es1 (.tup ds)) : EvIM K (iTup K te) es es1 ds := fun F G H σ s R q => h F G H σ s _ fun v G1 H1 s1 g1 r1 => by
  cases r1 with
  | tup hs r =>
    refine ⟨_, rfl, ⟨_, sqT_mono s1.g hs⟩, q _ G1 H1 s1 g1 fun i F2 G2 H2 σ2 es2 g2 s2 => ⟨fun d e => ?_, fun e => ⟨_, sqT_mono s2.g (sqT_mono g2 hs), by rw [r.length]; exact e⟩⟩⟩
    obtain ⟨v, hv, rv⟩ := r.get e
    refine ⟨⟨_, v, sqT_mono s2.g (sqT_mono g2 hs), hv⟩, fun x H3 y => ?_⟩
    obtain ⟨e1, y2⟩ := y
    subst e1
    have := (y2 _ (sqT_mono s2.g (sqT_mono g2 hs))).symm.trans hv
    cases this
    exact ⟨G2, s2, Same.refl _, rv.mono g2⟩
end
/-! x in a list of data of any depth -/
section
open PySem.Spec PyProof.Rows
variable {X : Cx}
def rInLD (K : PySem.W.Frag) (neg : Bool) : R2 := fun x y H Q => ∃ d ds, Dp K H x d ∧ Dp K H y (.list ds) ∧ (d.canLay0 = true ∧ d.depth ≤ 60) ∧ SeqAt.shaped (.list ds) = true ∧ Q (.bl (if neg = true then !ds.any (fun z => PyData.eqv z d) else ds.any fun z => PyData.eqv z d)) H
theorem op_inLD (hu : X.A.units + 64 < cLine) : OpR X (compareOp .In) (rInLD X.K false) := by
  intro pins s σ H x y v u Q I rx ry h
  obtain ⟨d, ds, hd, he, sd, se, q⟩ := h
  obtain ⟨as, r1⟩ := Dp.reads I d x v hd rx
  obtain ⟨bs, r2⟩ := Dp.reads I (.list ds) y u he ry
  exact SeqAt.in_list_reads r2 r1 (SeqAt.canLay_of_shaped se) sd.1 (room_inT sd hu) ⟨.bl _, H, I, rfl, q⟩
theorem op_ninLD (hu : X.A.units + 64 < cLine) : OpR X (compareOp .NotIn) (rInLD X.K true) := by
  intro pins s σ H x y v u Q I rx ry h
  obtain ⟨d, ds, hd, he, sd, se, q⟩ := h
  obtain ⟨as, r1⟩ := Dp.reads I d x v hd rx
  obtain ⟨bs, r2⟩ := Dp.reads I (.list ds) y u he ry
  exact SeqAt.notIn_list_reads r2 r1 (SeqAt.canLay_of_shaped se) sd.1 (room_inT sd hu) ⟨.bl _, H, I, rfl, q⟩
end
section
variable {K : PySem.W.Frag} {es : List Sl} {ta tb : TE} {a : Dt} {ds : List Dt}
theorem ev_inLD (sa : SH 60 a) (sb : SH 64 (.lst ds)) (ha : Ev K ta es a) (hb : Ev K tb es (.lst ds)) : Ev K (tOp (rInLD K false) ta tb) es (.bl (inD a ds)) := ev_op ha hb fun F G H σ es x y s rx ry Q q => by
  have e : pd (.lst ds) = .list (pds ds) := by simp only [pd]
  have d2 := sb.dp s.g ry
  have s2 := shaped_of sb
  rw [e] at d2 s2
  refine ⟨pd a, pds ds, sa.dp s.g rx, d2, sa.lay, s2, ?_⟩
  rw [any_pds]
  exact q _ G H s (Same.refl _) (.bl _)
theorem ev_ninLD (sa : SH 60 a) (sb : SH 64 (.lst ds)) (ha : Ev K ta es a) (hb : Ev K tb es (.lst ds)) : Ev K (tOp (rInLD K true) ta tb) es (.bl (!inD a ds)) := ev_op ha hb fun F G H σ es x y s rx ry Q q => by
  have e : pd (.lst ds) = .list (pds ds) := by simp only [pd]
  have d2 := sb.dp s.g ry
  have s2 := shaped_of sb
  rw [e] at d2 s2
  refine ⟨pd a, pds ds, sa.dp s.g rx, d2, sa.lay, s2, ?_⟩
  rw [any_pds]
  exact q _ G H s (Same.refl _) (.bl _)
def inDC (a : Dt) (ds : List Dt) : Option Bool := if (shD 60 a && shD 64 (.lst ds)) = true then some (inD a ds) else none
theorem inDC_of {b : Bool} (h : inDC a ds = some b) : (SH 60 a ∧ SH 64 (.lst ds)) ∧ inD a ds = b := by
  obtain ⟨h1, h2⟩ := ite_some h
  rw [Bool.and_eq_true] at h1
  exact ⟨⟨shD_ok h1.1, shD_ok h1.2⟩, h2⟩
theorem ev_inLC {b : Bool} (ha : Ev K ta es a) (hb : Ev K tb es (.lst ds)) (h : inDC a ds = some b) : Ev K (tOp (rInLD K false) ta tb) es (.bl b) := by
  obtain ⟨⟨s1, s2⟩, e⟩ := inDC_of h
  exact e ▸ ev_inLD s1 s2 ha hb
theorem ev_ninLC {b : Bool} (ha : Ev K ta es a) (hb : Ev K tb es (.lst ds)) (h : inDC a ds = some b) : Ev K (tOp (rInLD K true) ta tb) es (.bl (!b)) := by
  obtain ⟨⟨s1, s2⟩, e⟩ := inDC_of h
  exact e ▸ ev_ninLD s1 s2 ha hb
end
end DL

/-! Dl34: properties of own classes -/
namespace DL
open PySem L2
section
variable {K : PySem.W.Frag} {es : List Sl} {d : Dt} {E : XK}
/-- o.f, a property -/
theorem ev_prop {P : List Dt → Dt → Prop} {to : TE} {C : Addr} {fs : List (Str × Dt)} (ho : Ev K to es (.obj C fs)) (hP : P [.obj C fs] d) : Ev K (tProp C (FSpec K (RD P)) [] E to) es d := fun F G H σ s Q q =>
  ho F G H σ s _ fun x G0 H0 s0 g0 r0 => by
    have r0' := r0
    cases r0 with
    | obj h rf =>
      refine ⟨_, _, _, rfl, s0.g _ _ h, ?_⟩
      exact ⟨rem G0 H0, G0, [Dt.obj C fs].map .d, d, [Dt.obj C fs].map .d, stt_data s0.rem.1 s0.g s0.rem.2 (.cons r0' .nil), ⟨_, rfl, rfl, hP⟩, fun v G2 H2 s2 g2 r2 =>
        q v G2 H2 (s0.after s2.f s2.g s2.dj g2) (g0.trans g2) r2⟩
/-! and, or: tests that change the slots -/
variable {t u : TT} {S : Type} {en : S → List Sl}
theorem etm_pure {tt : TT} {b : Bool} {s : S} (h : EvMT K tt es (en s) b) : ∀ q, some (b, s) = some q → EvMT K tt es (en q.2) q.1 := fun q e => by cases e; exact h
theorem etm_bnd {γ : Type} {tt : TT} {m1 : Option γ} {k : γ → Option (Bool × S)} (h : ∀ x, m1 = some x → ∀ q, k x = some q → EvMT K tt es (en q.2) q.1) : ∀ q, m1.bind k = some q → EvMT K tt es (en q.2) q.1 := fun q e => by
  cases z : m1 with
  | none => rw [z] at e; cases e
  | some x => rw [z] at e; exact h x z q e
theorem etm_orC {x : Bool} {m : Option (Bool × S)} {s0 : S} {r : Bool × S} (h1 : EvT K t es x) (h0 : en s0 = es) (h2 : x = false → ∀ q, m = some q → EvMT K u es (en q.2) q.1) (h : (if x = true then some (true, s0) else m) = some r) : EvMT K (tOr t u) es (en r.2) r.1 := fun F G H σ s Q q => h1 F G H σ s _ fun G1 H1 s1 g1 => by
  cases x with
  | true =>
    cases h
    exact q G1 H1 (by show Stt K F G1 H1 σ (en s0); rw [h0]; exact s1) g1
  | false => exact h2 rfl r h F G1 H1 σ s1 Q fun G2 H2 s2 g2 => q G2 H2 s2 (g1.trans g2)
theorem etm_andC {x : Bool} {m : Option (Bool × S)} {s0 : S} {r : Bool × S} (h1 : EvT K t es x) (h0 : en s0 = es) (h2 : x = true → ∀ q, m = some q → EvMT K u es (en q.2) q.1) (h : (if x = true then m else some (false, s0)) = some r) : EvMT K (tAnd t u) es (en r.2) r.1 := fun F G H σ s Q q => h1 F G H σ s _ fun G1 H1 s1 g1 => by
  cases x with
  | false =>
    cases h
    exact q G1 H1 (by show Stt K F G1 H1 σ (en s0); rw [h0]; exact s1) g1
  | true => exact h2 rfl r h F G1 H1 σ s1 Q fun G2 H2 s2 g2 => q G2 H2 s2 (g1.trans g2)
end
/-! list.index of whole numbers -/
def findI (y : Int) : List Int → Nat → Option Nat
  | [], _ => none
  | x :: xs, k => if x = y then some k else findI y xs (k + 1)
def idxL (xs : List Int) (y : Int) : Option Int := (findI y xs 0).map fun n => (n : Int)
theorem findI_at {y : Int} : ∀ {xs : List Int} {k j : Nat}, findI y xs k = some j → ∃ i, j = k + i ∧ xs[i]? = some y ∧ ∀ m, m < i → xs[m]? ≠ some y
  | [], _, _, h => by cases h
  | x :: xs, k, j, h => by
    unfold findI at h
    by_cases e : x = y
    · rw [if_pos e] at h
      cases h
      exact ⟨0, rfl, congrArg some e, fun m hm => absurd hm (Nat.not_lt_zero m)⟩
    · rw [if_neg e] at h
      obtain ⟨i, e1, e2, e3⟩ := findI_at h
      refine ⟨i + 1, by omega, e2, fun m hm => ?_⟩
      cases m with
      | zero => exact fun q => e (Option.some.inj q)
      | succ m => exact e3 m (by omega)
section
variable {K : PySem.W.Frag} {es : List Sl} {te to : TE} {y : Int} {ys : List Int} {i : Int}
theorem ev_lIdx (ho : Ev K to es (.lst (ys.map Dt.int))) (he : Ev K te es (.int y)) (h : idxL ys y = some i) : Ev K (tBM K "list" (rIndex K) to (tCons te tNil)) es (.int i) := fun F G H σ s Q q =>
  ho F G H σ s _ fun v G1 H1 s1 g1 r1 => by
    cases r1 with
    | @lst a xs _ h1 q1 =>
      have e := ints_of q1
      subst e
      refine ⟨?_, he F G1 H1 σ s1 _ fun w G2 H2 s2 g2 r2 => ?_⟩
      · exact .inl ⟨rfl, _, s1.g.seq h1⟩
      cases r2
      unfold idxL at h
      cases hf : findI y ys 0 with
      | none => rw [hf] at h; cases h
      | some j =>
        rw [hf] at h
        cases h
        obtain ⟨k, e1, e2, e3⟩ := findI_at hf
        obtain rfl : j = k := by omega
        refine ⟨a, ys.map V.int, .int y, j, .int y, rfl, rfl, s2.g.seq (g2.seq h1), rfl, ?_, by rw [List.getElem?_map, e2]; rfl, ?_, fun m z' hm hz => ?_, q _ G2 H2 s2 (g1.trans g2) (.int _)⟩
        · rw [List.all_map]
          exact List.all_eq_true.mpr fun x _ => rfl
        · show (y == y) = true
          exact beq_self_eq_true y
        · rw [List.getElem?_map] at hz
          cases hq : ys[m]? with
          | none => rw [hq] at hz; cases hz
          | some z =>
            rw [hq] at hz
            cases hz
            have : z ≠ y := fun e => e3 m hm (by rw [hq, e])
            show (z == y) = false
            exact beq_eq_false_iff_ne.mpr this
end
end DL
namespace Hd
open PySem PySem.Spec PyProof.Rows L2 He
theorem prop_ok {K : PySem.W.Frag} {C p : Addr} {f : Str} (h1 : PySem.W.findIn K (.ref C) f = some (some (.ref p))) (h2 : PySem.W.specialIn K (.ref p) "__get__" = some (some (.builtin "property.__get__"))) (h3 : PySem.W.takesIn K (.ref p) = some true) (h4 : prRB K p = true) : PropOf K C f p (prG K p) := ⟨h1, h2, h3, prR_ok h4⟩
end Hd

namespace G
open PySem L2 DL
inductive Stp where
  | w_move (a0 : Str)
  | w_hold (a0 : (Option Str))
  | w_set (a0 : Str) (a1 : Bool)
  | w_wait (a0 : Str) (a1 : Bool)
  | w_jump (a0 : Int)
  | w_if (a0 : Str) (a1 : Int)
  deriving DecidableEq
def Stp.out : Stp → (Sum (Unit × Str) (Sum (Unit × (Option Str)) (Sum (Unit × Str × Bool) (Sum (Unit × Str × Bool) (Sum (Unit × Int) (Unit × Str × Int))))))
  | .w_move a0 => Sum.inl ((), a0)
  | .w_hold a0 => Sum.inr (Sum.inl ((), a0))
  | .w_set a0 a1 => Sum.inr (Sum.inr (Sum.inl ((), a0, a1)))
  | .w_wait a0 a1 => Sum.inr (Sum.inr (Sum.inr (Sum.inl ((), a0, a1))))
  | .w_jump a0 => Sum.inr (Sum.inr (Sum.inr (Sum.inr (Sum.inl ((), a0)))))
  | .w_if a0 a1 => Sum.inr (Sum.inr (Sum.inr (Sum.inr (Sum.inr ((), a0, a1)))))
inductive Plc where
  | w_rest (a0 : Str) (a1 : (Option Str))
  | w_move (a0 : Str) (a1 : Str) (a2 : (Option Str))
  deriving DecidableEq
def Plc.out : Plc → (Sum (Unit × Str × (Option Str)) (Unit × Str × Str × (Option Str)))
  | .w_rest a0 a1 => Sum.inl ((), a0, a1)
  | .w_move a0 a1 a2 => Sum.inr ((), a0, a1, a2)
inductive Hld where
  | w_ended (a0 : Int) (a1 : Int)
  | w_signal (a0 : Int) (a1 : Str) (a2 : Bool)
  | w_ring (a0 : (List Int))
  deriving DecidableEq
def Hld.out : Hld → (Sum (Unit × Int × Int) (Sum (Unit × Int × Str × Bool) (Unit × (List Int))))
  | .w_ended a0 a1 => Sum.inl ((), a0, a1)
  | .w_signal a0 a1 a2 => Sum.inr (Sum.inl ((), a0, a1, a2))
  | .w_ring a0 => Sum.inr (Sum.inr ((), a0))
def d_Stp : Stp → Dt
  | .w_move a0 => .tup [.str "move", Dt.str a0]
  | .w_hold a0 => .tup [.str "hold", (dO Dt.str) a0]
  | .w_set a0 a1 => .tup [.str "set", Dt.str a0, Dt.bl a1]
  | .w_wait a0 a1 => .tup [.str "wait", Dt.str a0, Dt.bl a1]
  | .w_jump a0 => .tup [.str "jump", Dt.int a0]
  | .w_if a0 a1 => .tup [.str "if", Dt.str a0, Dt.int a1]
theorem d_Stp_out (t : Stp) : d_Stp t = (dS (dT2 (dK "move") Dt.str) (dS (dT2 (dK "hold") (dO Dt.str)) (dS (dT3 (dK "set") Dt.str Dt.bl) (dS (dT3 (dK "wait") Dt.str Dt.bl) (dS (dT2 (dK "jump") Dt.int) (dT3 (dK "if") Dt.str Dt.int)))))) t.out := by cases t <;> rfl
def Stp.word : Stp → Str
  | .w_move _ => ("move" : Str)
  | .w_hold _ => ("hold" : Str)
  | .w_set _ _ => ("set" : Str)
  | .w_wait _ _ => ("wait" : Str)
  | .w_jump _ => ("jump" : Str)
  | .w_if _ _ => ("if" : Str)
theorem d_Stp_word (x : Stp) : ∃ ds, d_Stp x = .tup ds ∧ atI ds 0 = some (.str x.word) := by cases x <;> exact ⟨_, rfl, rfl⟩
def Stp.at1S : Stp → Option Str
  | .w_move a0 => some a0
  | .w_hold a0 => none
  | .w_set a0 a1 => some a0
  | .w_wait a0 a1 => some a0
  | .w_jump a0 => none
  | .w_if a0 a1 => some a0
theorem d_Stp_at1S {x : Stp} {v : Str} (h : Stp.at1S x = some v) : ∃ ds, d_Stp x = .tup ds ∧ atI ds 1 = some (Dt.str v) := by cases x <;> cases h <;> exact ⟨_, rfl, rfl⟩
def Stp.at1O : Stp → Option (Option Str)
  | .w_move a0 => some (some a0)
  | .w_hold a0 => some a0
  | .w_set a0 a1 => some (some a0)
  | .w_wait a0 a1 => some (some a0)
  | .w_jump a0 => none
  | .w_if a0 a1 => some (some a0)
theorem d_Stp_at1O {x : Stp} {v : (Option Str)} (h : Stp.at1O x = some v) : ∃ ds, d_Stp x = .tup ds ∧ atI ds 1 = some ((dO Dt.str) v) := by cases x <;> cases h <;> exact ⟨_, rfl, rfl⟩
def Stp.at1I : Stp → Option Int
  | .w_move a0 => none
  | .w_hold a0 => none
  | .w_set a0 a1 => none
  | .w_wait a0 a1 => none
  | .w_jump a0 => some a0
  | .w_if a0 a1 => none
theorem d_Stp_at1I {x : Stp} {v : Int} (h : Stp.at1I x = some v) : ∃ ds, d_Stp x = .tup ds ∧ atI ds 1 = some (Dt.int v) := by cases x <;> cases h <;> exact ⟨_, rfl, rfl⟩
def Stp.at2B : Stp → Option Bool
  | .w_move a0 => none
  | .w_hold a0 => none
  | .w_set a0 a1 => some a1
  | .w_wait a0 a1 => some a1
  | .w_jump a0 => none
  | .w_if a0 a1 => none
theorem d_Stp_at2B {x : Stp} {v : Bool} (h : Stp.at2B x = some v) : ∃ ds, d_Stp x = .tup ds ∧ atI ds 2 = some (Dt.bl v) := by cases x <;> cases h <;> exact ⟨_, rfl, rfl⟩
def Stp.at2I : Stp → Option Int
  | .w_move a0 => none
  | .w_hold a0 => none
  | .w_set a0 a1 => none
  | .w_wait a0 a1 => none
  | .w_jump a0 => none
  | .w_if a0 a1 => some a1
theorem d_Stp_at2I {x : Stp} {v : Int} (h : Stp.at2I x = some v) : ∃ ds, d_Stp x = .tup ds ∧ atI ds 2 = some (Dt.int v) := by cases x <;> cases h <;> exact ⟨_, rfl, rfl⟩
def d_Plc : Plc → Dt
  | .w_rest a0 a1 => .tup [.str "rest", Dt.str a0, (dO Dt.str) a1]
  | .w_move a0 a1 a2 => .tup [.str "move", Dt.str a0, Dt.str a1, (dO Dt.str) a2]
theorem d_Plc_out (t : Plc) : d_Plc t = (dS (dT3 (dK "rest") Dt.str (dO Dt.str)) (dT4 (dK "move") Dt.str Dt.str (dO Dt.str))) t.out := by cases t <;> rfl
def Plc.word : Plc → Str
  | .w_rest _ _ => ("rest" : Str)
  | .w_move _ _ _ => ("move" : Str)
theorem d_Plc_word (x : Plc) : ∃ ds, d_Plc x = .tup ds ∧ atI ds 0 = some (.str x.word) := by cases x <;> exact ⟨_, rfl, rfl⟩
def Plc.at1S : Plc → Option Str
  | .w_rest a0 a1 => some a0
  | .w_move a0 a1 a2 => some a0
theorem d_Plc_at1S {x : Plc} {v : Str} (h : Plc.at1S x = some v) : ∃ ds, d_Plc x = .tup ds ∧ atI ds 1 = some (Dt.str v) := by cases x <;> cases h <;> exact ⟨_, rfl, rfl⟩
def Plc.at2O : Plc → Option (Option Str)
  | .w_rest a0 a1 => some a1
  | .w_move a0 a1 a2 => some (some a1)
theorem d_Plc_at2O {x : Plc} {v : (Option Str)} (h : Plc.at2O x = some v) : ∃ ds, d_Plc x = .tup ds ∧ atI ds 2 = some ((dO Dt.str) v) := by cases x <;> cases h <;> exact ⟨_, rfl, rfl⟩
def Plc.at2S : Plc → Option Str
  | .w_rest a0 a1 => none
  | .w_move a0 a1 a2 => some a1
theorem d_Plc_at2S {x : Plc} {v : Str} (h : Plc.at2S x = some v) : ∃ ds, d_Plc x = .tup ds ∧ atI ds 2 = some (Dt.str v) := by cases x <;> cases h <;> exact ⟨_, rfl, rfl⟩
def Plc.at3O : Plc → Option (Option Str)
  | .w_rest a0 a1 => none
  | .w_move a0 a1 a2 => some a2
theorem d_Plc_at3O {x : Plc} {v : (Option Str)} (h : Plc.at3O x = some v) : ∃ ds, d_Plc x = .tup ds ∧ atI ds 3 = some ((dO Dt.str) v) := by cases x <;> cases h <;> exact ⟨_, rfl, rfl⟩
def d_Hld : Hld → Dt
  | .w_ended a0 a1 => .tup [.str "ended", Dt.int a0, Dt.int a1]
  | .w_signal a0 a1 a2 => .tup [.str "signal", Dt.int a0, Dt.str a1, Dt.bl a2]
  | .w_ring a0 => .tup [.str "ring", (dL Dt.int) a0]
theorem d_Hld_out (t : Hld) : d_Hld t = (dS (dT3 (dK "ended") Dt.int Dt.int) (dS (dT4 (dK "signal") Dt.int Dt.str Dt.bl) (dT2 (dK "ring") (dL Dt.int)))) t.out := by cases t <;> rfl
def Hld.word : Hld → Str
  | .w_ended _ _ => ("ended" : Str)
  | .w_signal _ _ _ => ("signal" : Str)
  | .w_ring _ => ("ring" : Str)
theorem d_Hld_word (x : Hld) : ∃ ds, d_Hld x = .tup ds ∧ atI ds 0 = some (.str x.word) := by cases x <;> exact ⟨_, rfl, rfl⟩
def Hld.at1I : Hld → Option Int
  | .w_ended a0 a1 => some a0
  | .w_signal a0 a1 a2 => some a0
  | .w_ring a0 => none
theorem d_Hld_at1I {x : Hld} {v : Int} (h : Hld.at1I x = some v) : ∃ ds, d_Hld x = .tup ds ∧ atI ds 1 = some (Dt.int v) := by cases x <;> cases h <;> exact ⟨_, rfl, rfl⟩
def Hld.at1L : Hld → Option (List Int)
  | .w_ended a0 a1 => none
  | .w_signal a0 a1 a2 => none
  | .w_ring a0 => some a0
theorem d_Hld_at1L {x : Hld} {v : (List Int)} (h : Hld.at1L x = some v) : ∃ ds, d_Hld x = .tup ds ∧ atI ds 1 = some ((dL Dt.int) v) := by cases x <;> cases h <;> exact ⟨_, rfl, rfl⟩
def Hld.at2I : Hld → Option Int
  | .w_ended a0 a1 => some a1
  | .w_signal a0 a1 a2 => none
  | .w_ring a0 => none
theorem d_Hld_at2I {x : Hld} {v : Int} (h : Hld.at2I x = some v) : ∃ ds, d_Hld x = .tup ds ∧ atI ds 2 = some (Dt.int v) := by cases x <;> cases h <;> exact ⟨_, rfl, rfl⟩
def Hld.at2S : Hld → Option Str
  | .w_ended a0 a1 => none
  | .w_signal a0 a1 a2 => some a1
  | .w_ring a0 => none
theorem d_Hld_at2S {x : Hld} {v : Str} (h : Hld.at2S x = some v) : ∃ ds, d_Hld x = .tup ds ∧ atI ds 2 = some (Dt.str v) := by cases x <;> cases h <;> exact ⟨_, rfl, rfl⟩
def Hld.at3B : Hld → Option Bool
  | .w_ended a0 a1 => none
  | .w_signal a0 a1 a2 => some a2
  | .w_ring a0 => none
theorem d_Hld_at3B {x : Hld} {v : Bool} (h : Hld.at3B x = some v) : ∃ ds, d_Hld x = .tup ds ∧ atI ds 3 = some (Dt.bl v) := by cases x <;> cases h <;> exact ⟨_, rfl, rfl⟩
structure Plan where
  flows : (List (List Stp))
  starts : (List Str)
  blocks : (List (Dt × Dt))
def m__law_number (script : (List Int)) (k : Int) : Option Int :=
lt (0 : Int) fun cell1 =>
(if (decide (k < (script.length : Int))) = true then
(atC script k).bind fun t2 =>
some (t2 : Int)
else
some (cell1 : Int)).bind fun (s3 : Int) =>
(if (decide (s3 < 0)) = true then
(mulC 2 s3).bind fun t4 =>
lt (1 - t4 : Int) fun cell5 =>
some (cell5 : Int)
else
some (s3 : Int)).bind fun (s6 : Int) =>
if (decide (1000000000 ≤ s6)) = true then
some s6
else
(mulC (s6 + 17) 48271).bind fun t7 =>
(mulC (k + 3) 69621).bind fun t8 =>
(modC (t7 + t8) 2147483647).bind fun t9 =>
(mulC t9 40692).bind fun t10 =>
(mulC (s6 + 5) (k + 11)).bind fun t11 =>
(modC (t10 + t11) 2147483399).bind fun t12 =>
(mulC t9 2147483399).bind fun t13 =>
some (t13 + t12)
def m__law_digits (script : (List Int)) (first : Int) (count : Int) : Option (List Int) :=
lt (0 : Int) fun number_here1 =>
(rngC 0 count).bind fun r2 =>
(forL r2 (number_here1 : Int) fun k4 s3 =>
(mulC s3 4611686018427387904).bind fun t5 =>
(m__law_number script (((first + count) - 1) - k4)).bind fun t6 =>
lt (t5 + t6 : Int) fun number_here7 =>
some (number_here7 : Int)).bind fun (s8 : Int) =>
some [s8]
def m__law_digit (digits_here : (List Int)) (many : Int) : Option (Int × List Int) :=
(atC digits_here 0).bind fun t1 =>
(modC t1 many).bind fun t2 =>
(atC digits_here 0).bind fun t3 =>
(divC t3 many).bind fun t4 =>
(setC digits_here 0 t4).bind fun digits_here5 =>
some (t2, digits_here5)
def m__law_step (digits_here : (List Int)) (index : Int) (size : Int) (signals : (List Str)) : Option (Stp × List Int) :=
(m__law_digit digits_here 9).bind fun t1 =>
(m__law_digit t1.2 (size - index)).bind fun t2 =>
(m__law_digit t2.2 (signals.length : Int)).bind fun t3 =>
(atC signals t3.1).bind fun t4 =>
if (decide (t1.1 < 3)) = true then
(m__law_digit t3.2 2).bind fun t5 =>
(atC [("p" : Str), ("q" : Str)] t5.1).bind fun t6 =>
some ((Stp.w_move t6), t5.2)
else
if (decide (t1.1 = 3)) = true then
(m__law_digit t3.2 2).bind fun t7 =>
(atC [(none : (Option Str)), some ("x" : Str)] t7.1).bind fun t8 =>
some ((Stp.w_hold t8), t7.2)
else
if (decide (t1.1 = 4)) = true then
(m__law_digit t3.2 4).bind fun t9 =>
some ((Stp.w_set t4 (decide (0 < t9.1))), t9.2)
else
if (decide (t1.1 = 5)) = true then
(m__law_digit t3.2 4).bind fun t10 =>
some ((Stp.w_wait t4 (decide (0 < t10.1))), t10.2)
else
if (decide (t1.1 = 6)) = true then
some ((Stp.w_jump ((index + 1) + t2.1)), t3.2)
else
if (decide (t1.1 = 7)) = true then
some ((Stp.w_if ("i" : Str) ((index + 1) + t2.1)), t3.2)
else
(modC index 2).bind fun t11 =>
(atC [("q" : Str), ("p" : Str)] t11).bind fun t12 =>
some ((Stp.w_move t12), t3.2)
def m__law_place (digits_here : (List Int)) : Option (Plc × List Int) :=
(m__law_digit digits_here 2).bind fun t1 =>
(atC [("p" : Str), ("q" : Str)] t1.1).bind fun t2 =>
(m__law_digit t1.2 2).bind fun t3 =>
(atC [(none : (Option Str)), some ("x" : Str)] t3.1).bind fun t4 =>
(m__law_digit t3.2 2).bind fun t5 =>
if (decide (t5.1 = 0)) = true then
some ((Plc.w_rest t2 t4), t5.2)
else
(m__law_digit t5.2 2).bind fun t6 =>
(atC [("p" : Str), ("q" : Str)] t6.1).bind fun t7 =>
some ((Plc.w_move t2 t7 t4), t6.2)
def m__law_plan (digits_here : (List Int)) : Option (((List (List Stp)) × (List Str) × (List (Int × Plc × Int × Plc))) × List Int) :=
(m__law_digit digits_here 7).bind fun t1 =>
(atC [2, 3, 2, 1, 2, 3, 4] t1.1).bind fun t2 =>
(atC [0, 8, 5, 2, 1] t2).bind fun t3 =>
lt ((("s" : Str), ("t" : Str)) : (Str × Str)) fun signals4 =>
(if (decide (2 < t2)) = true then
lt (("s" : Str) : Str) fun signals5 =>
some ([signals5] : (List Str))
else
some ([signals4.1, signals4.2] : (List Str))).bind fun (s6 : (List Str)) =>
lt ([] : (List (List Stp))) fun flows7 =>
(rngC 0 t2).bind fun r8 =>
(forL r8 ((flows7, t1.2) : (List (List Stp)) × (List Int)) fun arm10 s9 =>
(m__law_digit s9.2 (t3 + 1)).bind fun t11 =>
(modC t11.1 3).bind fun t12 =>
(rngC 0 (t3 - t12)).bind fun r13 =>
(mapSC r13 t11.2 (fun (index14 : Int) (s15 : (List Int)) => (m__law_step s15 index14 (t3 - t12) s6).bind fun t16 => some (t16.1, t16.2))).bind fun t17 =>
(appC s9.1 t17.1).bind fun flows19 =>
some ((flows19, t17.2) : (List (List Stp)) × (List Int))).bind fun (s20 : (List (List Stp)) × (List Int)) =>
(rngC 0 t2).bind fun r21 =>
(mapSC r21 s20.2 (fun (arm22 : Int) (s23 : (List Int)) => (m__law_digit s23 2).bind fun t24 => (atC [("p" : Str), ("q" : Str)] t24.1).bind fun t25 => some (t25, t24.2))).bind fun t26 =>
lt ([] : (List (Int × Plc × Int × Plc))) fun blocked28 =>
(m__law_digit t26.2 9).bind fun t29 =>
(rngC 0 t29.1).bind fun r30 =>
(forL r30 ((blocked28, t29.2) : (List (Int × Plc × Int × Plc)) × (List Int)) fun k32 s31 =>
(m__law_digit s31.2 t2).bind fun t33 =>
(m__law_digit t33.2 t2).bind fun t34 =>
(m__law_place t34.2).bind fun t35 =>
(if (!(decide (t33.1 = t34.1))) = true then
(m__law_place t35.2).bind fun t36 =>
(appC s31.1 (t33.1, t35.1, t34.1, t36.1)).bind fun blocked37 =>
some ((blocked37, t36.2) : (List (Int × Plc × Int × Plc)) × (List Int))
else
some ((s31.1, t35.2) : (List (Int × Plc × Int × Plc)) × (List Int))).bind fun (s38 : (List (Int × Plc × Int × Plc)) × (List Int)) =>
some ((s38.1, s38.2) : (List (Int × Plc × Int × Plc)) × (List Int))).bind fun (s39 : (List (Int × Plc × Int × Plc)) × (List Int)) =>
some ((s20.1, t26.1, s39.1), s39.2)
def m__law_more (digits_here : (List Int)) (arms : Int) : Option ((List (Int × Plc × Int × Plc)) × List Int) :=
lt ([] : (List (Int × Plc × Int × Plc))) fun blocked1 =>
(if (decide (arms < 2)) = true then some (true, digits_here) else (m__law_digit digits_here 2).bind fun t2 => some (decide (t2.1 = 0), t2.2)).bind fun t4 =>
if t4.1 = true then
some (blocked1, t4.2)
else
(forL [("p" : Str), ("q" : Str)] (blocked1 : (List (Int × Plc × Int × Plc))) fun point6 s5 =>
(rngC 1 arms).bind fun r7 =>
(forL r7 (s5 : (List (Int × Plc × Int × Plc))) fun other9 s8 =>
(forL [(none : (Option Str)), some ("x" : Str)] (s8 : (List (Int × Plc × Int × Plc))) fun held11 s10 =>
(appC s10 (other9 - 1, (Plc.w_move ("p" : Str) ("q" : Str) (none : (Option Str))), other9, (Plc.w_rest point6 held11))).bind fun blocked12 =>
(appC blocked12 (other9, (Plc.w_move point6 ("p" : Str) held11), other9 - 1, (Plc.w_rest ("p" : Str) (none : (Option Str))))).bind fun blocked13 =>
some (blocked13 : (List (Int × Plc × Int × Plc)))).bind fun (s14 : (List (Int × Plc × Int × Plc))) =>
some (s14 : (List (Int × Plc × Int × Plc)))).bind fun (s15 : (List (Int × Plc × Int × Plc))) =>
some (s15 : (List (Int × Plc × Int × Plc)))).bind fun (s16 : (List (Int × Plc × Int × Plc))) =>
some (s16, t4.2)
def m_Plan_init (flows : (List (List Stp))) (starts : (List Str)) (blocked : (List (Int × Plc × Int × Plc))) : Option Plan :=
(mapP flows (fun flow1 => flow1)).bind fun t2 =>
(szC blocked).bind fun z5 =>
(forL blocked ([] : List (Dt × Dt)) (fun (x3 : (Int × Plc × Int × Plc)) (s4 : List (Dt × Dt)) => (nkC (.tup [.int x3.1, d_Plc x3.2.1, .int x3.2.2.1, d_Plc x3.2.2.2])).bind fun k1 => (nkC (.tup [.int x3.2.2.1, d_Plc x3.2.2.2, .int x3.1, d_Plc x3.2.1])).bind fun k2 => some (putK2 (putK2 s4 k1 (.tup [.int x3.1, d_Plc x3.2.1, .int x3.2.2.1, d_Plc x3.2.2.2]) (.bl true)) k2 (.tup [.int x3.2.2.1, d_Plc x3.2.2.2, .int x3.1, d_Plc x3.2.1]) (.bl true)))).bind fun blocks6 =>
some (⟨t2, starts, blocks6⟩ : Plan)
def m__law_landing (flow : (List Stp)) (index : Int) : Option Int :=
(rngC 0 ((flow.length : Int) + 1)).bind fun r1 =>
(forL r1 (index : Int) fun k3 s2 =>
(if (decide (s2 < (flow.length : Int))) = true then (atC flow s2).bind fun t4 => some (decide (t4.word = ("jump" : Str))) else some false).bind fun b5 =>
(if b5 = true then
(atC flow s2).bind fun t6 =>
(Stp.at1I t6).bind fun t7 =>
some (t7 : Int)
else
some (s2 : Int)).bind fun (s8 : Int) =>
some (s8 : Int)).bind fun (s9 : Int) =>
some s9
def m__law_start (flows : (List (List Stp))) (starts : (List Str)) : Option ((List (Int × Str × (Option Str))) × (List Str)) :=
(rngC 0 (flows.length : Int)).bind fun r1 =>
(mapC r1 (fun arm2 => (atC flows arm2).bind fun t3 => (m__law_landing t3 0).bind fun t4 => (atC starts arm2).bind fun t5 => some (t4, t5, (none : (Option Str))))).bind fun t6 =>
some (t6, [])
def m_Plan_has_ended (self : Plan) (state : ((List (Int × Str × (Option Str))) × (List Str))) (arm : Int) : Option Bool :=
(atC state.1 arm).bind fun t1 =>
(atC self.flows arm).bind fun t2 =>
some (decide ((t2.length : Int) ≤ t1.1))
def m_Plan_all_ended (self : Plan) (state : ((List (Int × Str × (Option Str))) × (List Str))) : Option Bool :=
(rngC 0 (self.flows.length : Int)).bind fun r1 =>
thenF (S := Unit) (R := Bool) (forF r1 (() : Unit) fun arm3 s2 =>
(m_Plan_has_ended self state arm3).bind fun t4 =>
if (!t4) = true then
some (.rt false)
else
some (.nx ())) (fun (s5 : Unit) =>
some true) (fun r => r)
def m_Plan_step_of (self : Plan) (state : ((List (Int × Str × (Option Str))) × (List Str))) (arm : Int) : Option (Option Stp) :=
(atC state.1 arm).bind fun t1 =>
lt (t1.1 : Int) fun at_2 =>
(atC self.flows arm).bind fun t3 =>
(if (decide (at_2 < (t3.length : Int))) = true then (atC self.flows arm).bind fun t4 => (atC t4 at_2).bind fun t5 => some (some t5) else some (none : (Option Stp))).bind fun t6 =>
some t6
def m_Plan_wanted (self : Plan) (state : ((List (Int × Str × (Option Str))) × (List Str))) (arm : Int) : Option (Option Plc) :=
(m_Plan_step_of self state arm).bind fun t1 =>
(atC state.1 arm).bind fun t2 =>
if t1.isNone = true then
some (none : (Option Plc))
else
(t1).bind fun o3 =>
if (decide (o3.word = ("move" : Str))) = true then
(t1).bind fun o4 =>
(Stp.at1S o4).bind fun t5 =>
some (some (Plc.w_move t2.2.1 t5 t2.2.2))
else
(t1).bind fun o6 =>
(if (decide (o6.word = ("hold" : Str))) = true then (t1).bind fun o7 => (Stp.at1O o7).bind fun t8 => some (some (Plc.w_rest t2.2.1 t8)) else some (none : (Option Plc))).bind fun t9 =>
some t9
def m_Plan_rest_of (self : Plan) (state : ((List (Int × Str × (Option Str))) × (List Str))) (arm : Int) : Option Plc :=
(atC state.1 arm).bind fun t1 =>
some (Plc.w_rest t1.2.1 t1.2.2)
def m_Plan_is_clear (self : Plan) (arm : Int) (place : Plc) (other : Int) (other_place : Plc) : Option Bool :=
(nkC (.tup [.int arm, d_Plc place, .int other, d_Plc other_place])).bind fun t1 =>
some (!hasD self.blocks t1)
def m_Plan_hindered_by (self : Plan) (state : ((List (Int × Str × (Option Str))) × (List Str))) (arm : Int) : Option (Option Int) :=
(m_Plan_wanted self state arm).bind fun t1 =>
if t1.isNone = true then
some (none : (Option Int))
else
(rngC 0 (self.flows.length : Int)).bind fun r2 =>
thenF (S := Unit) (R := (Option Int)) (forF r2 (() : Unit) fun other4 s3 =>
(if (!(decide (other4 = arm))) = true then (m_Plan_rest_of self state other4).bind fun t5 => (t1).bind fun o6 => (m_Plan_is_clear self arm o6 other4 t5).bind fun t7 => some (!t7) else some false).bind fun b8 =>
if b8 = true then
some (.rt (some other4))
else
some (.nx ())) (fun (s9 : Unit) =>
some (none : (Option Int))) (fun r => r)
def m_Plan_can_step (self : Plan) (state : ((List (Int × Str × (Option Str))) × (List Str))) (arm : Int) : Option Bool :=
(m_Plan_step_of self state arm).bind fun t1 =>
if t1.isNone = true then
some false
else
(t1).bind fun o2 =>
if (decide (o2.word = ("wait" : Str))) = true then
(t1).bind fun o3 =>
(Stp.at1S o3).bind fun t4 =>
(t1).bind fun o5 =>
(Stp.at2B o5).bind fun t6 =>
some (decide ((decide (t4 ∈ state.2)) = t6))
else
(m_Plan_hindered_by self state arm).bind fun t7 =>
some t7.isNone
def m_first_stepper (plan : Plan) (state : ((List (Int × Str × (Option Str))) × (List Str))) : Option (Option Int) :=
(rngC 0 (plan.flows.length : Int)).bind fun r1 =>
thenF (S := Unit) (R := (Option Int)) (forF r1 (() : Unit) fun arm3 s2 =>
(m_Plan_can_step plan state arm3).bind fun t4 =>
if t4 = true then
some (.rt (some arm3))
else
some (.nx ())) (fun (s5 : Unit) =>
some (none : (Option Int))) (fun r => r)
def m_what_holds_up (plan : Plan) (state : ((List (Int × Str × (Option Str))) × (List Str))) : Option (Option Hld) :=
(m_Plan_all_ended plan state).bind fun t1 =>
(if t1 = true then some true else (m_first_stepper plan state).bind fun t2 => some (!t2.isNone)).bind fun b3 =>
if b3 = true then
some (none : (Option Hld))
else
lt ([] : (List Int)) fun chain4 =>
(rngC 0 (plan.flows.length : Int)).bind fun r5 =>
(forL r5 (chain4 : (List Int)) fun arm7 s6 =>
(if (decide ((s6.length : Int) = 0)) = true then (m_Plan_has_ended plan state arm7).bind fun t8 => some (!t8) else some false).bind fun b9 =>
(if b9 = true then
(appC s6 arm7).bind fun chain10 =>
some (chain10 : (List Int))
else
some (s6 : (List Int))).bind fun (s11 : (List Int)) =>
some (s11 : (List Int))).bind fun (s12 : (List Int)) =>
thenF (S := (List Int)) (R := (Option Hld)) (whileF 1000000 (s12 : (List Int)) (fun s13 => some true) fun s13 =>
(atC s13 (-1)).bind fun t14 =>
(m_Plan_step_of plan state t14).bind fun t15 =>
if t15.isNone = true then
(atC s13 (-2)).bind fun t16 =>
some (.rt (some (Hld.w_ended t16 t14)))
else
(t15).bind fun o17 =>
if (decide (o17.word = ("wait" : Str))) = true then
(t15).bind fun o18 =>
(Stp.at1S o18).bind fun t19 =>
(t15).bind fun o20 =>
(Stp.at2B o20).bind fun t21 =>
some (.rt (some (Hld.w_signal t14 t19 t21)))
else
(m_Plan_hindered_by plan state t14).bind fun t22 =>
(t22).bind fun o23 =>
if (decide (o23 ∈ s13)) = true then
(t22).bind fun o24 =>
(idxL s13 o24).bind fun t25 =>
some (.rt (some (Hld.w_ring (cutL s13 (some t25) (none)))))
else
(t22).bind fun o26 =>
(appC s13 o26).bind fun chain27 =>
some (.nx chain27)) (fun (s28 : (List Int)) =>
none) (fun r => r)
def m__law_at (flows : (List (List Stp))) (state : ((List (Int × Str × (Option Str))) × (List Str))) (arm : Int) : Option (Option Stp) :=
(atC state.1 arm).bind fun t1 =>
lt (t1.1 : Int) fun at_here2 =>
(atC flows arm).bind fun t3 =>
if (decide (at_here2 < (t3.length : Int))) = true then
(atC flows arm).bind fun t4 =>
(atC t4 at_here2).bind fun t5 =>
some (some t5)
else
some (none : (Option Stp))
def m__law_wanted (flows : (List (List Stp))) (state : ((List (Int × Str × (Option Str))) × (List Str))) (arm : Int) : Option (Option Plc) :=
(m__law_at flows state arm).bind fun t1 =>
if t1.isNone = true then
some (none : (Option Plc))
else
(t1).bind fun o2 =>
if (decide (o2.word = ("move" : Str))) = true then
(atC state.1 arm).bind fun t3 =>
(t1).bind fun o4 =>
(Stp.at1S o4).bind fun t5 =>
(atC state.1 arm).bind fun t6 =>
some (some (Plc.w_move t3.2.1 t5 t6.2.2))
else
(t1).bind fun o7 =>
if (decide (o7.word = ("hold" : Str))) = true then
(atC state.1 arm).bind fun t8 =>
(t1).bind fun o9 =>
(Stp.at1O o9).bind fun t10 =>
some (some (Plc.w_rest t8.2.1 t10))
else
some (none : (Option Plc))
def m__law_clear (blocked : (List (Int × Plc × Int × Plc))) (arm : Int) (place_here : Plc) (other : Int) (other_place : Plc) : Option Bool :=
(inDC ((dT4 Dt.int d_Plc Dt.int d_Plc) (arm, place_here, other, other_place)) (List.map (dT4 Dt.int d_Plc Dt.int d_Plc) blocked)).bind fun t1 =>
(if (!t1) = true then (inDC ((dT4 Dt.int d_Plc Dt.int d_Plc) (other, other_place, arm, place_here)) (List.map (dT4 Dt.int d_Plc Dt.int d_Plc) blocked)).bind fun t2 => some (!t2) else some false).bind fun b3 =>
some b3
def m__law_hinders (flows : (List (List Stp))) (blocked : (List (Int × Plc × Int × Plc))) (state : ((List (Int × Str × (Option Str))) × (List Str))) (arm : Int) : Option (Option Int) :=
(m__law_wanted flows state arm).bind fun t1 =>
if (!t1.isNone) = true then
(rngC 0 (flows.length : Int)).bind fun r2 =>
thenF (S := Unit) (R := (Option Int)) (forF r2 (() : Unit) fun other4 s3 =>
(atC state.1 other4).bind fun t5 =>
(atC state.1 other4).bind fun t6 =>
lt (((), t5.2.1, t6.2.2) : (Unit × Str × (Option Str))) fun rest7 =>
(if (!(decide (other4 = arm))) = true then (t1).bind fun o8 => (m__law_clear blocked arm o8 other4 (Plc.w_rest rest7.2.1 rest7.2.2)).bind fun t9 => some (!t9) else some false).bind fun b10 =>
if b10 = true then
some (.rt (some other4))
else
some (.nx ())) (fun (s11 : Unit) =>
some (none : (Option Int))) (fun r => r)
else
some (none : (Option Int))
def m__law_can (flows : (List (List Stp))) (blocked : (List (Int × Plc × Int × Plc))) (state : ((List (Int × Str × (Option Str))) × (List Str))) (arm : Int) : Option Bool :=
(m__law_at flows state arm).bind fun t1 =>
if t1.isNone = true then
some false
else
(t1).bind fun o2 =>
if (decide (o2.word = ("wait" : Str))) = true then
(t1).bind fun o3 =>
(Stp.at1S o3).bind fun t4 =>
(t1).bind fun o5 =>
(Stp.at2B o5).bind fun t6 =>
some (decide ((decide (t4 ∈ state.2)) = t6))
else
(m__law_hinders flows blocked state arm).bind fun t7 =>
some t7.isNone
def m__law_holds (flows : (List (List Stp))) (blocked : (List (Int × Plc × Int × Plc))) (state : ((List (Int × Str × (Option Str))) × (List Str))) : Option (Option Hld) :=
lt ([] : (List Int)) fun chain1 =>
(rngC 0 (flows.length : Int)).bind fun r2 =>
thenF (S := (List Int)) (R := (Option Hld)) (forF r2 (chain1 : (List Int)) fun arm4 s3 =>
(m__law_can flows blocked state arm4).bind fun t5 =>
if t5 = true then
some (.rt (none : (Option Hld)))
else
(if (decide ((s3.length : Int) = 0)) = true then (m__law_at flows state arm4).bind fun t6 => some (!t6.isNone) else some false).bind fun b7 =>
(if b7 = true then
(appC s3 arm4).bind fun chain8 =>
some (chain8 : (List Int))
else
some (s3 : (List Int))).bind fun (s9 : (List Int)) =>
some (.nx s9)) (fun (s10 : (List Int)) =>
(rngC 0 ((flows.length : Int) + 1)).bind fun r11 =>
thenF (S := (List Int)) (R := (Option Hld)) (forF r11 (s10 : (List Int)) fun k13 s12 =>
if (decide ((s12.length : Int) = 0)) = true then
some (.rt (none : (Option Hld)))
else
(atC s12 ((s12.length : Int) - 1)).bind fun t14 =>
(m__law_at flows state t14).bind fun t15 =>
if t15.isNone = true then
(atC s12 ((s12.length : Int) - 2)).bind fun t16 =>
some (.rt (some (Hld.w_ended t16 t14)))
else
(t15).bind fun o17 =>
if (decide (o17.word = ("wait" : Str))) = true then
(t15).bind fun o18 =>
(Stp.at1S o18).bind fun t19 =>
(t15).bind fun o20 =>
(Stp.at2B o20).bind fun t21 =>
some (.rt (some (Hld.w_signal t14 t19 t21)))
else
(m__law_hinders flows blocked state t14).bind fun t22 =>
(t22).bind fun o23 =>
if (decide (o23 ∈ s12)) = true then
(t22).bind fun o24 =>
(idxL s12 o24).bind fun t25 =>
some (.rt (some (Hld.w_ring (cutL s12 (some t25) (none)))))
else
(t22).bind fun o26 =>
(appC s12 o26).bind fun chain27 =>
some (.nx chain27)) (fun (s28 : (List Int)) =>
some (none : (Option Hld))) (fun r => r)) (fun r => r)
def m__law_moved (flows : (List (List Stp))) (state : ((List (Int × Str × (Option Str))) × (List Str))) (arm : Int) (at_here : Int) (point : Str) (held : (Option Str)) (signals : (List Str)) : Option ((List (Int × Str × (Option Str))) × (List Str)) :=
lt (state.1 : (List (Int × Str × (Option Str)))) fun spots1 =>
(atC flows arm).bind fun t2 =>
(m__law_landing t2 at_here).bind fun t3 =>
(setC spots1 arm (t3, point, held)).bind fun spots4 =>
some (spots4, signals)
def m__law_outcomes (flows : (List (List Stp))) (state : ((List (Int × Str × (Option Str))) × (List Str))) (arm : Int) : Option (List ((List (Int × Str × (Option Str))) × (List Str))) :=
(m__law_at flows state arm).bind fun t1 =>
if t1.isNone = true then
some []
else
(atC state.1 arm).bind fun t2 =>
lt (state.2 : (List Str)) fun signals3 =>
(t1).bind fun o4 =>
(if (decide (o4.word = ("move" : Str))) = true then
(t1).bind fun o5 =>
(Stp.at1S o5).bind fun t6 =>
some (t6 : Str)
else
some (t2.2.1 : Str)).bind fun (s7 : Str) =>
(t1).bind fun o8 =>
(if (decide (o8.word = ("hold" : Str))) = true then
(t1).bind fun o9 =>
(Stp.at1O o9).bind fun t10 =>
some (t10 : (Option Str))
else
some (t2.2.2 : (Option Str))).bind fun (s11 : (Option Str)) =>
(t1).bind fun o12 =>
(if (decide (o12.word = ("set" : Str))) = true then (t1).bind fun o13 => (Stp.at2B o13).bind fun t14 => (if t14 = true then (t1).bind fun o15 => (Stp.at1S o15).bind fun t16 => some (!(decide (t16 ∈ signals3))) else some false).bind fun b17 => some b17 else some false).bind fun b18 =>
(if b18 = true then
(t1).bind fun o19 =>
(Stp.at1S o19).bind fun t20 =>
(appC signals3 t20).bind fun signals21 =>
some (signals21 : (List Str))
else
some (signals3 : (List Str))).bind fun (s22 : (List Str)) =>
(t1).bind fun o23 =>
(if (decide (o23.word = ("set" : Str))) = true then (t1).bind fun o24 => (Stp.at2B o24).bind fun t25 => some (!t25) else some false).bind fun b26 =>
(if b26 = true then
(t1).bind fun o28 =>
(Stp.at1S o28).bind fun t29 =>
(filC s22 (fun name27 => if (!(decide (name27 = t29))) = true then (some name27).bind fun y => some (some y) else some none)).bind fun t30 =>
some (t30 : (List Str))
else
some (s22 : (List Str))).bind fun (s32 : (List Str)) =>
(m__law_moved flows state arm (t2.1 + 1) s7 s11 s32).bind fun t33 =>
lt ([t33] : (List ((List (Int × Str × (Option Str))) × (List Str)))) fun after34 =>
(t1).bind fun o35 =>
(if (decide (o35.word = ("if" : Str))) = true then
(t1).bind fun o36 =>
(Stp.at2I o36).bind fun t37 =>
(m__law_moved flows state arm t37 s7 s11 s32).bind fun t38 =>
(appC after34 t38).bind fun after39 =>
some (after39 : (List ((List (Int × Str × (Option Str))) × (List Str))))
else
some (after34 : (List ((List (Int × Str × (Option Str))) × (List Str))))).bind fun (s40 : (List ((List (Int × Str × (Option Str))) × (List Str)))) =>
some s40
def m__law_next (digits_here : (List Int)) (flows : (List (List Stp))) (blocked : (List (Int × Plc × Int × Plc))) (state : ((List (Int × Str × (Option Str))) × (List Str))) : Option ((Option ((List (Int × Str × (Option Str))) × (List Str))) × List Int) :=
(m__law_digit digits_here (flows.length : Int)).bind fun t1 =>
(rngC 0 (flows.length : Int)).bind fun r2 =>
thenF (S := (List Int)) (R := ((Option ((List (Int × Str × (Option Str))) × (List Str))) × List Int)) (forF r2 (t1.2 : (List Int)) fun k4 s3 =>
(modC (t1.1 + k4) (flows.length : Int)).bind fun t5 =>
(m__law_can flows blocked state t5).bind fun t6 =>
if t6 = true then
(m__law_outcomes flows state t5).bind fun t7 =>
(m__law_digit s3 (t7.length : Int)).bind fun t8 =>
(atC t7 t8.1).bind fun t9 =>
some (.rt (some t9, t8.2))
else
some (.nx s3)) (fun (s10 : (List Int)) =>
some ((none : (Option ((List (Int × Str × (Option Str))) × (List Str)))), s10)) (fun r => r)
def m_law (script : (List Int)) : Option Bool :=
(m__law_digits script 0 16).bind fun t1 =>
(m__law_plan t1).bind fun t3 =>
(m__law_more t3.2 (t3.1.1.length : Int)).bind fun t4 =>
(catC t3.1.2.2 t4.1).bind fun t5 =>
(m_Plan_init t3.1.1 t3.1.2.1 t5).bind fun t6 =>
(m__law_start t3.1.1 t3.1.2.1).bind fun t7 =>
lt (some t7 : (Option ((List (Int × Str × (Option Str))) × (List Str)))) fun state8 =>
thenF (S := (Option ((List (Int × Str × (Option Str))) × (List Str))) × (List Int)) (R := Bool) (forF (rng 0 20) ((state8, t4.2) : (Option ((List (Int × Str × (Option Str))) × (List Str))) × (List Int)) fun k10 s9 =>
(s9.1).bind fun o11 =>
(m_what_holds_up t6 o11).bind fun t12 =>
(s9.1).bind fun o13 =>
(m__law_holds t3.1.1 t5 o13).bind fun t14 =>
(eqDC ((dO d_Hld) t12) ((dO d_Hld) t14)).bind fun t15 =>
if (!t15) = true then
some (.rt false)
else
(if (!t12.isNone) = true then (t12).bind fun o16 => some (decide (o16.word = ("ring" : Str))) else some false).bind fun b17 =>
if b17 = true then
(t12).bind fun o18 =>
(Hld.at1L o18).bind fun t19 =>
(rngC 0 (t19.length : Int)).bind fun r20 =>
thenF (S := Unit) (R := Bool) (forF r20 (() : Unit) fun index22 s21 =>
(modC (index22 + 1) (t19.length : Int)).bind fun t23 =>
(atC t19 t23).bind fun t24 =>
(atC t19 index22).bind fun t25 =>
(s9.1).bind fun o26 =>
(m__law_hinders t3.1.1 t5 o26 t25).bind fun t27 =>
(if (!(decide (t27 = (some t24)))) = true then some true else (idxL t19 t24).bind fun t28 => (modC (index22 + 1) (t19.length : Int)).bind fun t29 => some (!(decide (t28 = t29)))).bind fun b30 =>
if b30 = true then
some (.rt false)
else
some (.nx ())) (fun (s31 : Unit) =>
(s9.1).bind fun o32 =>
(m__law_next s9.2 t3.1.1 t5 o32).bind fun t33 =>
if t33.1.isNone = true then
some (.rt true)
else
some (.nx (t33.1, t33.2))) (fun r => .rt r)
else
(s9.1).bind fun o34 =>
(m__law_next s9.2 t3.1.1 t5 o34).bind fun t35 =>
if t35.1.isNone = true then
some (.rt true)
else
some (.nx (t35.1, t35.2))) (fun (s36 : (Option ((List (Int × Str × (Option Str))) × (List Str))) × (List Int)) =>
some true) (fun r => r)
end G

/-! Mx: plain mathematics for the mirrors: partial values that are there (Tot), sizes (lg). -/
namespace DL
open PySem L2

def Tot {α : Type} (m : Option α) (P : α → Prop) : Prop := ∃ x, m = some x ∧ P x
section
variable {α β γ : Type} {P : α → Prop} {Q : β → Prop}
theorem tot_some {x : α} (h : P x) : Tot (some x) P := ⟨x, rfl, h⟩
theorem tot_bind {m : Option α} {f : α → Option β} (h : Tot m P) (k : ∀ x, P x → Tot (f x) Q) : Tot (m.bind f) Q := by
  obtain ⟨x, rfl, p⟩ := h
  exact k x p
theorem tot_lt {e : α} {f : α → Option β} (k : ∀ x, x = e → Tot (f x) Q) : Tot (lt e f) Q := k e rfl
theorem tot_imp {P' : α → Prop} {m : Option α} (h : Tot m P) (k : ∀ x, P x → P' x) : Tot m P' := by
  obtain ⟨x, e, p⟩ := h
  exact ⟨x, e, k x p⟩
theorem tot_ite {b : Bool} {p q : Option α} (h1 : b = true → Tot p P) (h2 : b = false → Tot q P) : Tot (if b = true then p else q) P := by
  cases b with
  | true => exact h1 rfl
  | false => exact h2 rfl
theorem tot_true {m : Option Bool} (h : Tot m (· = true)) : m = some true := by
  obtain ⟨x, e, rfl⟩ := h
  exact e
theorem tot_eq {m : Option α} {x : α} (h : m = some x) : Tot m (· = x) := ⟨x, h, rfl⟩
/-- a loop, by what holds between its turns -/
theorem tot_forL {S : Type} {W : S → Prop} {f : α → S → Option S} : ∀ {xs : List α} {s : S}, W s → (∀ x s, x ∈ xs → W s → Tot (f x s) W) → Tot (forL xs s f) W
  | [], s, h, _ => ⟨s, rfl, h⟩
  | x :: xs, s, h, k => tot_bind (k x s List.mem_cons_self h) fun s' h' => tot_forL h' fun y z hy hz => k y z (List.mem_cons_of_mem _ hy) hz
/-- a loop that leaves by a wrong answer alone: it never does -/
theorem tot_forF {S R : Type} {W : S → Prop} {f : α → S → Option (Fl S R)} : ∀ {xs : List α} {s : S}, W s → (∀ x s, x ∈ xs → W s → Tot (f x s) fun o => ∃ s', o = .nx s' ∧ W s') → Tot (forF xs s f) fun o => ∃ s', o = .nx s' ∧ W s'
  | [], s, h, _ => ⟨.nx s, rfl, s, rfl, h⟩
  | x :: xs, s, h, k => by
    obtain ⟨o, e, s', rfl, h'⟩ := k x s List.mem_cons_self h
    obtain ⟨o2, e2, s2, rfl, h2⟩ := tot_forF (xs := xs) h' fun y z hy hz => k y z (List.mem_cons_of_mem _ hy) hz
    refine ⟨.nx s2, ?_, s2, rfl, h2⟩
    show (f x s).bind _ = _
    rw [e]
    exact e2
theorem tot_thenF {S R ρ : Type} {W : S → Prop} {P : ρ → Prop} {m : Option (Fl S R)} {k : S → Option ρ} {er : R → ρ} (h : Tot m fun o => ∃ s', o = .nx s' ∧ W s') (h2 : ∀ s, W s → Tot (k s) P) : Tot (thenF m k er) P := by
  obtain ⟨o, rfl, s', rfl, w⟩ := h
  exact h2 s' w
/-- a loop over a list by place -/
theorem tot_forLi {S : Type} {W : Nat → S → Prop} {f : α → S → Option S} {xs : List α} {s : S} (h : W 0 s) (k : ∀ i x s, xs[i]? = some x → W i s → Tot (f x s) (W (i + 1))) : Tot (forL xs s f) (W xs.length) := by
  have gen : ∀ (ys : List α) (n : Nat) (s : S), xs.drop n = ys → n ≤ xs.length → W n s → Tot (forL ys s f) (W xs.length) := by
    intro ys
    induction ys with
    | nil =>
      intro n s e hn hw
      have : n = xs.length := by
        have := congrArg List.length e
        rw [List.length_drop, List.length_nil] at this
        omega
      subst this
      exact ⟨s, rfl, hw⟩
    | cons y ys ih =>
      intro n s e hn hw
      have hlt : n < xs.length := by
        have := congrArg List.length e
        rw [List.length_drop, List.length_cons] at this
        omega
      have hy : xs[n]? = some y := by
        have := congrArg (fun l => l[0]?) e
        simpa using this
      refine tot_bind (k n y s hy hw) fun s' hs' => ih (n + 1) s' ?_ hlt hs'
      have := congrArg (List.drop 1) e
      simpa [List.drop_drop, Nat.add_comm] using this
  exact gen xs 0 s rfl (Nat.zero_le _) h
end

/-! ### sizes -/
def lg (x : Int) : Nat := x.natAbs.log2
theorem lg_le_of {x : Int} {n : Nat} (h : x.natAbs < 2 ^ (n + 1)) : lg x ≤ n := by
  unfold lg
  by_cases h0 : x.natAbs = 0
  · rw [h0, Nat.log2_zero]
    exact Nat.zero_le _
  · exact Nat.le_of_lt_succ ((Nat.log2_lt h0).mpr h)
theorem lt_lg (x : Int) : x.natAbs < 2 ^ (lg x + 1) := by
  unfold lg
  by_cases h0 : x.natAbs = 0
  · rw [h0]
    exact Nat.pow_pos (by decide)
  · exact (Nat.log2_lt h0).mp (Nat.lt_succ_self _)
theorem lg_mono {x y : Int} (h : x.natAbs ≤ y.natAbs) : lg x ≤ lg y := lg_le_of (Nat.lt_of_le_of_lt h (lt_lg y))
theorem lg_mul (x y : Int) : lg (x * y) ≤ lg x + lg y + 1 := by
  refine lg_le_of ?_
  rw [Int.natAbs_mul]
  have h := Nat.mul_lt_mul'' (lt_lg x) (lt_lg y)
  rw [← Nat.pow_add] at h
  have e : lg x + 1 + (lg y + 1) = lg x + lg y + 1 + 1 := by omega
  rw [e] at h
  exact h
theorem lg_add (x y : Int) : lg (x + y) ≤ max (lg x) (lg y) + 1 := by
  refine lg_le_of ?_
  have hx : x.natAbs < 2 ^ (max (lg x) (lg y) + 1) := Nat.lt_of_lt_of_le (lt_lg x) (Nat.pow_le_pow_right (by decide) (by omega))
  have hy : y.natAbs < 2 ^ (max (lg x) (lg y) + 1) := Nat.lt_of_lt_of_le (lt_lg y) (Nat.pow_le_pow_right (by decide) (by omega))
  rw [Nat.pow_succ 2 (max (lg x) (lg y) + 1)]
  omega
theorem lg_neg (x : Int) : lg (-x) = lg x := by
  unfold lg
  rw [Int.natAbs_neg]
theorem lg_sub (x y : Int) : lg (x - y) ≤ max (lg x) (lg y) + 1 := by
  have := lg_add x (-y)
  rw [lg_neg] at this
  exact this
theorem lg_bits {x : Int} {n : Nat} (h : Builtin.Int.intBits x ≤ n) : lg x ≤ n := by
  unfold Builtin.Int.intBits at h
  unfold lg
  split at h
  · rename_i e
    have : x.natAbs = 0 := by simpa using e
    rw [this, Nat.log2_zero]
    exact Nat.zero_le _
  · omega
theorem lg_max {x y : Int} {n : Nat} (hx : lg x ≤ n) (hy : lg y ≤ n) : lg (max x y) ≤ n := by
  rcases Int.le_total x y with h | h
  · rw [Int.max_eq_right h]; exact hy
  · rw [Int.max_eq_left h]; exact hx
/-- below a bound -/
theorem lg_le {x : Int} {b : Nat} (h : x.natAbs ≤ b) {n : Nat} (hb : b.log2 ≤ n) : lg x ≤ n := by
  refine Nat.le_trans ?_ hb
  have : lg x ≤ lg (b : Int) := lg_mono (by rw [Int.natAbs_natCast]; exact h)
  exact this

/-! ### the operations -/
section
variable {β : Type} {Q : β → Prop} {f : Int → Option β}
theorem mulC_eq {a b : Int} (h : lg a + lg b < 100000000) : mulC a b = some (a * b) := if_pos h
theorem tot_mul {a b : Int} (h : lg a + lg b < 100000000) (k : Tot (f (a * b)) Q) : Tot ((mulC a b).bind f) Q := by
  rw [mulC_eq h]
  exact k
theorem divC_eq {a b : Int} (h : 0 < b) (h2 : lg b < 9000) : divC a b = some (a / b) := if_pos ⟨h, h2⟩
theorem tot_div {a b : Int} (h : 0 < b) (h2 : lg b < 9000) (k : Tot (f (a / b)) Q) : Tot ((divC a b).bind f) Q := by
  rw [divC_eq h h2]
  exact k
theorem modC_eq {a b : Int} (h : 0 < b) : modC a b = some (a % b) := if_pos h
theorem tot_mod {a b : Int} (h : 0 < b) (k : 0 ≤ a % b → a % b < b → Tot (f (a % b)) Q) : Tot ((modC a b).bind f) Q := by
  rw [modC_eq h]
  exact k (Int.emod_nonneg _ (by omega)) (Int.emod_lt_of_pos _ h)
theorem powC_eq {a b : Int} (h : 0 ≤ b ∧ b ≤ 1000000 ∧ a.natAbs < 2 ^ 64) : powC a b = some (a ^ b.toNat) := if_pos (by
  obtain ⟨h1, h2, h3⟩ := h
  refine ⟨h1, ?_⟩
  have l : a.natAbs.log2 ≤ 63 := lg_le_of (x := a) (n := 63) h3
  have := Int.mul_le_mul_of_nonneg_right (show (a.natAbs.log2 : Int) + 1 ≤ 64 by omega) h1
  omega)
theorem powC_two {a : Int} (h : lg a ≤ 60000000) : powC a 2 = some (a ^ (2 : Int).toNat) := if_pos (by unfold lg at h; omega)
theorem tot_pow {a b : Int} (h : 0 ≤ b ∧ b ≤ 1000000 ∧ a.natAbs < 2 ^ 64) (k : Tot (f (a ^ b.toNat)) Q) : Tot ((powC a b).bind f) Q := by
  rw [powC_eq h]
  exact k
theorem shlC_eq {a b : Int} (h : 0 ≤ b ∧ b ≤ 1000000 ∧ a.natAbs < 2 ^ 64) : shlC a b = some (a * 2 ^ b.toNat) := if_pos (by
  obtain ⟨h1, h2, h3⟩ := h
  have l : a.natAbs.log2 ≤ 63 := lg_le_of (x := a) (n := 63) h3
  omega)
theorem tot_shl {a b : Int} (h : 0 ≤ b ∧ b ≤ 1000000 ∧ a.natAbs < 2 ^ 64) (k : Tot (f (a * 2 ^ b.toNat)) Q) : Tot ((shlC a b).bind f) Q := by
  rw [shlC_eq h]
  exact k
theorem shrC_eq {a b : Int} (h : 0 ≤ b) : shrC a b = some (a / 2 ^ b.toNat) := if_pos h
theorem tot_shr {a b : Int} (h : 0 ≤ b) (k : Tot (f (a / 2 ^ b.toNat)) Q) : Tot ((shrC a b).bind f) Q := by
  rw [shrC_eq h]
  exact k
theorem atC_nat {α : Type} {xs : List α} {i : Nat} : atC xs (i : Int) = xs[i]? := by
  unfold atC atI ixN
  by_cases h : i < xs.length
  · rw [if_pos (by omega), if_pos (by omega)]
    rfl
  · rw [if_pos (by omega), if_neg (by omega), List.getElem?_eq_none (by omega)]
    rfl
theorem atC_get {α : Type} {xs : List α} {i : Int} (h0 : 0 ≤ i) (h : i < xs.length) : ∃ x, atC xs i = some x ∧ x ∈ xs ∧ xs[i.toNat]? = some x := by
  have hi : i.toNat < xs.length := by omega
  refine ⟨xs[i.toNat], ?_, List.getElem_mem hi, List.getElem?_eq_getElem hi⟩
  have : atC xs ((i.toNat : Nat) : Int) = xs[i.toNat]? := atC_nat
  rw [Int.toNat_of_nonneg h0] at this
  rw [this, List.getElem?_eq_getElem hi]
theorem tot_at {α : Type} {xs : List α} {i : Int} {g : α → Option β} (h0 : 0 ≤ i) (h : i < xs.length) (k : ∀ x, x ∈ xs → xs[i.toNat]? = some x → Tot (g x) Q) : Tot ((atC xs i).bind g) Q := by
  obtain ⟨x, e, m, e2⟩ := atC_get h0 h
  rw [e]
  exact k x m e2
theorem tot_app {α : Type} {xs : List α} {x : α} {g : List α → Option β} (h : xs.length < 10000000) (k : Tot (g (xs ++ [x])) Q) : Tot ((appC xs x).bind g) Q := by
  unfold appC
  rw [if_pos h]
  exact k
theorem mem_rng {lo hi x : Int} : x ∈ rng lo hi ↔ lo ≤ x ∧ x < hi := by
  unfold rng
  simp only [List.mem_map, List.mem_range]
  constructor
  · rintro ⟨i, h, rfl⟩
    omega
  · rintro ⟨h1, h2⟩
    exact ⟨(x - lo).toNat, by omega, by omega⟩
theorem rng_len {lo hi : Int} : (rng lo hi).length = (hi - lo).toNat := by
  unfold rng
  rw [List.length_map, List.length_range]
theorem rng_get {lo hi x : Int} {i : Nat} (h : (rng lo hi)[i]? = some x) : x = lo + i ∧ (i : Int) < hi - lo := by
  unfold rng at h
  rw [List.getElem?_map] at h
  by_cases hi' : i < (hi - lo).toNat
  · rw [List.getElem?_range hi'] at h
    cases h
    exact ⟨rfl, by omega⟩
  · rw [List.getElem?_eq_none (by simpa using hi')] at h
    cases h
theorem tot_rng {lo hi : Int} {g : List Int → Option β} (h : -(2 ^ 62) ≤ lo ∧ lo < 2 ^ 62 ∧ -(2 ^ 62) ≤ hi ∧ hi < 2 ^ 62) (k : Tot (g (rng lo hi)) Q) : Tot ((rngC lo hi).bind g) Q := by
  rw [rngC_of h]
  exact k
theorem isqrt_spec {i : Int} (h0 : 0 ≤ i) (h : lg i ≤ 13000) : ∃ r : Int, isqrtC i = some r ∧ 0 ≤ r ∧ r * r ≤ i ∧ i < (r + 1) * (r + 1) := by
  have e : i.toNat.log2 ≤ 13000 := by
    unfold lg at h
    have : i.toNat = i.natAbs := by omega
    rw [this]
    exact h
  refine ⟨((Float64.isqrt i.toNat : Nat) : Int), if_pos ⟨h0, e⟩, Int.natCast_nonneg _, ?_, ?_⟩
  · have h1 := (PySem.Float64.isqrt_spec i.toNat).1
    have h2 : ((Float64.isqrt i.toNat * Float64.isqrt i.toNat : Nat) : Int) ≤ (i.toNat : Int) := Int.ofNat_le.mpr h1
    rw [Int.toNat_of_nonneg h0] at h2
    simpa using h2
  · have h1 := (PySem.Float64.isqrt_spec i.toNat).2
    have h2 : (i.toNat : Int) < (((Float64.isqrt i.toNat + 1) * (Float64.isqrt i.toNat + 1) : Nat) : Int) := Int.ofNat_lt.mpr h1
    rw [Int.toNat_of_nonneg h0] at h2
    simpa using h2
end
end DL

/-! My: sizes found by instances. -/
namespace DL
open PySem L2
open PySem L2

class Szl (x : Int) (n : outParam Nat) : Prop where
  le : lg x ≤ n
section
variable {a b : Int} {m n : Nat}
instance szl_lit (k : Nat) : Szl (no_index (OfNat.ofNat k) : Int) (Nat.log2 k) := ⟨Nat.le_refl _⟩
instance szl_neg [h : Szl a m] : Szl (-a) m := ⟨by rw [lg_neg]; exact h.le⟩
instance szl_mul [h : Szl a m] [k : Szl b n] : Szl (a * b) (m + n + 1) := ⟨by
  have := lg_mul a b
  have := h.le
  have := k.le
  omega⟩
instance szl_add [h : Szl a m] [k : Szl b n] : Szl (a + b) (max m n + 1) := ⟨by
  have := lg_add a b
  have := h.le
  have := k.le
  omega⟩
instance szl_sub [h : Szl a m] [k : Szl b n] : Szl (a - b) (max m n + 1) := ⟨by
  have := lg_sub a b
  have := h.le
  have := k.le
  omega⟩
instance szl_abs [h : Szl a m] : Szl (a.natAbs : Int) m := ⟨by
  have e : lg (a.natAbs : Int) = lg a := by unfold lg; rw [Int.natAbs_natCast]
  rw [e]
  exact h.le⟩
instance szl_max [h : Szl a m] [k : Szl b n] : Szl (max a b) (max m n) := ⟨by
  have := h.le
  have := k.le
  exact lg_max (by omega) (by omega)⟩
theorem lg_min {x y : Int} {n : Nat} (hx : lg x ≤ n) (hy : lg y ≤ n) : lg (min x y) ≤ n := by
  rcases Int.le_total x y with h | h
  · rw [Int.min_eq_left h]; exact hx
  · rw [Int.min_eq_right h]; exact hy
instance szl_min [h : Szl a m] [k : Szl b n] : Szl (min a b) (max m n) := ⟨by
  have := h.le
  have := k.le
  exact lg_min (by omega) (by omega)⟩
theorem lg_div {x y : Int} (h : 0 < y) : lg (x / y) ≤ lg x := by
  refine lg_mono ?_
  have h1 := Int.emod_add_mul_ediv x y
  have h2 := Int.emod_nonneg x (show y ≠ 0 by omega)
  have h3 := Int.emod_lt_of_pos x h
  generalize x / y = q at h1 ⊢
  generalize x % y = r at h1 h2 h3
  by_cases hq : 0 ≤ q
  · have := Int.mul_le_mul_of_nonneg_right (show (1 : Int) ≤ y by omega) hq
    rw [Int.one_mul] at this
    omega
  · have := Int.mul_le_mul_of_nonneg_right (show (1 : Int) ≤ y by omega) (show 0 ≤ -(q + 1) by omega)
    rw [Int.one_mul, Int.mul_neg, Int.mul_add, Int.mul_one] at this
    omega
theorem lg_mod {x y : Int} (h : 0 < y) : lg (x % y) ≤ lg y := by
  refine lg_mono ?_
  have h2 := Int.emod_nonneg x (show y ≠ 0 by omega)
  have h3 := Int.emod_lt_of_pos x h
  omega
theorem szl_of (h : lg a ≤ n) : Szl a n := ⟨h⟩
/-- by its size -/
theorem szl_abs_of {B : Nat} (h : a.natAbs ≤ B) : Szl a (Nat.log2 B) := ⟨lg_le h (Nat.le_refl _)⟩
theorem szl_le (h : Szl a m) (k : m ≤ n) : Szl a n := ⟨Nat.le_trans h.le k⟩

variable {β : Type} {Q : β → Prop} {f : Int → Option β}
theorem mul_s (ha : Szl a m) (hb : Szl b n) (h : m + n < 100000000) : mulC a b = some (a * b) := mulC_eq (by have := ha.le; have := hb.le; omega)
theorem t_mul [ha : Szl a m] [hb : Szl b n] (k : Tot (f (a * b)) Q) (h : m + n < 100000000 := by decide) : Tot ((mulC a b).bind f) Q := by
  rw [mul_s ha hb h]
  exact k
theorem t_div (h : 0 < b) [hb : Szl b n] (k : Tot (f (a / b)) Q) (h2 : n < 9000 := by decide) : Tot ((divC a b).bind f) Q := tot_div h (Nat.lt_of_le_of_lt hb.le h2) k
/-- % by a written number: the rest is a letter from here on -/
theorem t_mod (h : 0 < b) [hb : Szl b n] (k : ∀ x, x = a % b → 0 ≤ x → x < b → Szl x n → Tot (f x) Q) : Tot ((modC a b).bind f) Q := by
  rw [modC_eq h]
  exact k _ rfl (Int.emod_nonneg _ (by omega)) (Int.emod_lt_of_pos _ h) ⟨Nat.le_trans (lg_mod h) hb.le⟩
theorem t_at {α : Type} {xs : List α} {i : Int} {g : α → Option β} (h0 : 0 ≤ i) (h : i < xs.length) (k : ∀ x, x ∈ xs → xs[i.toNat]? = some x → Tot (g x) Q) : Tot ((atC xs i).bind g) Q := tot_at h0 h k
theorem t_no {P : β → Prop} {c : Bool} {p q : Option β} (h : c = false) (k : Tot q P) : Tot (if c = true then p else q) P := by
  subst h
  exact k
theorem t_yes {P : β → Prop} {c : Bool} {p q : Option β} (h : c = true) (k : Tot p P) : Tot (if c = true then p else q) P := by
  subst h
  exact k
/-- a partial value that is known -/
theorem t_eq {α : Type} {m : Option α} {x : α} {g : α → Option β} {P : β → Prop} (h : m = some x) (k : Tot (g x) P) : Tot (m.bind g) P := by
  rw [h]
  exact k
theorem t_bind {α : Type} {P : α → Prop} {m : Option α} {g : α → Option β} (h : Tot m P) (k : ∀ x, P x → Tot (g x) Q) : Tot (m.bind g) Q := tot_bind h k
/-- a loop's turn that goes on -/
theorem t_go {S R : Type} {s : S} {W : S → Prop} (h : W s) : Tot (some (Fl.nx s : Fl S R)) fun o => ∃ s', o = .nx s' ∧ W s' := ⟨_, rfl, s, rfl, h⟩
end

/-! ### vectors of three -/
abbrev V3 := Int × Int × Int
class Szv (v : V3) (n : outParam Nat) : Prop where
  x : lg v.1 ≤ n
  y : lg v.2.1 ≤ n
  z : lg v.2.2 ≤ n
section
variable {v w : V3} {m n : Nat}
instance szv_x [h : Szv v n] : Szl v.1 n := ⟨h.x⟩
instance szv_y [h : Szv v n] : Szl v.2.1 n := ⟨h.y⟩
instance szv_z [h : Szv v n] : Szl v.2.2 n := ⟨h.z⟩
theorem szv_of {B : Nat} (h : v.1.natAbs ≤ B ∧ v.2.1.natAbs ≤ B ∧ v.2.2.natAbs ≤ B) : Szv v (Nat.log2 B) := ⟨lg_le h.1 (Nat.le_refl _), lg_le h.2.1 (Nat.le_refl _), lg_le h.2.2 (Nat.le_refl _)⟩
theorem szv_le (h : Szv v m) (k : m ≤ n) : Szv v n := ⟨Nat.le_trans h.x k, Nat.le_trans h.y k, Nat.le_trans h.z k⟩
instance szv_mk {a b c : Int} {k l p : Nat} [h1 : Szl a k] [h2 : Szl b l] [h3 : Szl c p] : Szv (a, b, c) (max k (max l p)) := ⟨by have := h1.le; show lg a ≤ _; omega, by have := h2.le; show lg b ≤ _; omega, by have := h3.le; show lg c ≤ _; omega⟩
/-- the inner product -/
def dotv (v w : V3) : Int := v.1 * w.1 + v.2.1 * w.2.1 + v.2.2 * w.2.2
def addv (v w : V3) : V3 := (v.1 + w.1, v.2.1 + w.2.1, v.2.2 + w.2.2)
def subv (v w : V3) : V3 := (v.1 - w.1, v.2.1 - w.2.1, v.2.2 - w.2.2)
def mulv (v : V3) (k : Int) : V3 := (v.1 * k, v.2.1 * k, v.2.2 * k)
instance szl_dot [h : Szv v m] [k : Szv w n] : Szl (dotv v w) (m + n + 3) := ⟨by
  have h1 : Szl (v.1 * w.1 + v.2.1 * w.2.1 + v.2.2 * w.2.2) _ := inferInstance
  have := h1.le
  unfold dotv
  omega⟩
instance szv_add [h : Szv v m] [k : Szv w n] : Szv (addv v w) (max m n + 1) := ⟨(inferInstance : Szl (v.1 + w.1) _).le, (inferInstance : Szl (v.2.1 + w.2.1) _).le, (inferInstance : Szl (v.2.2 + w.2.2) _).le⟩
instance szv_sub [h : Szv v m] [k : Szv w n] : Szv (subv v w) (max m n + 1) := ⟨(inferInstance : Szl (v.1 - w.1) _).le, (inferInstance : Szl (v.2.1 - w.2.1) _).le, (inferInstance : Szl (v.2.2 - w.2.2) _).le⟩
instance szv_mul {k : Int} [h : Szv v m] [q : Szl k n] : Szv (mulv v k) (m + n + 1) := ⟨(inferInstance : Szl (v.1 * k) _).le, (inferInstance : Szl (v.2.1 * k) _).le, (inferInstance : Szl (v.2.2 * k) _).le⟩
end
theorem eqD_V3 (v w : V3) : eqD (dT3 Dt.int Dt.int Dt.int v) (dT3 Dt.int Dt.int Dt.int w) = decide (v = w) := by
  obtain ⟨a, b, c⟩ := v
  obtain ⟨a', b', c'⟩ := w
  rw [Bool.eq_iff_iff, decide_eq_true_eq]
  simp [eqD, pd, pds, PyData.eqv, PyData.eqvAll]
theorem dotv_self_nonneg (v : V3) : 0 ≤ dotv v v := by
  unfold dotv
  have h : ∀ x : Int, 0 ≤ x * x := fun x => by
    rcases Int.le_total 0 x with h | h
    · exact Int.mul_nonneg h h
    · exact Int.mul_nonneg_of_nonpos_of_nonpos h h
  have := h v.1
  have := h v.2.1
  have := h v.2.2
  omega
end DL
namespace DL
open PySem L2
theorem sq_eq (x : Int) : x ^ (2 : Int).toNat = x * x := by
  show x ^ 2 = _
  rw [Int.pow_succ, Int.pow_succ, Int.pow_zero, Int.one_mul]
/-- x ** 2 -/
theorem t_sq {β : Type} {Q : β → Prop} {f : Int → Option β} {a : Int} (h : a.natAbs < 2 ^ 64) (k : Tot (f (a * a)) Q) : Tot ((powC a 2).bind f) Q :=
  tot_pow ⟨by decide, by decide, h⟩ (by rw [sq_eq]; exact k)
theorem three {k : Int} (h : 0 ≤ k) (h' : k < 3) : k = 0 ∨ k = 1 ∨ k = 2 := by omega
theorem eq_of {α : Type} {m : Option α} {v : α} (h : Tot m fun x => x = v) : m = some v := by
  obtain ⟨x, e, rfl⟩ := h
  exact e
theorem t_lt {α β : Type} {Q : β → Prop} {e : α} {f : α → Option β} (k : Tot (f e) Q) : Tot (lt e f) Q := k
end DL
namespace DL
open PySem L2
/-- a loop that may be left by a break, by place -/
theorem tot_forFi {α S R : Type} {W : Nat → S → Prop} {B : S → Prop} {f : α → S → Option (Fl S R)} {xs : List α} {s : S} (h : W 0 s) (k : ∀ i x s, xs[i]? = some x → W i s → Tot (f x s) fun o => (∃ s', o = .nx s' ∧ W (i + 1) s') ∨ ∃ s', o = .bk s' ∧ B s') :
    Tot (forF xs s f) fun o => (∃ s', o = .nx s' ∧ W xs.length s') ∨ ∃ s', o = .bk s' ∧ B s' := by
  have gen : ∀ (ys : List α) (n : Nat) (s : S), xs.drop n = ys → n ≤ xs.length → W n s → Tot (forF ys s f) fun o => (∃ s', o = .nx s' ∧ W xs.length s') ∨ ∃ s', o = .bk s' ∧ B s' := by
    intro ys
    induction ys with
    | nil =>
      intro n s e hn hw
      have : n = xs.length := by
        have := congrArg List.length e
        rw [List.length_drop, List.length_nil] at this
        omega
      subst this
      exact ⟨.nx s, rfl, .inl ⟨s, rfl, hw⟩⟩
    | cons y ys ih =>
      intro n s e hn hw
      have hlt : n < xs.length := by
        have := congrArg List.length e
        rw [List.length_drop, List.length_cons] at this
        omega
      have hy : xs[n]? = some y := by
        have := congrArg (fun l => l[0]?) e
        simpa using this
      obtain ⟨o, eo, ho⟩ := k n y s hy hw
      have nxt : xs.drop (n + 1) = ys := by
        have := congrArg (List.drop 1) e
        simpa [List.drop_drop, Nat.add_comm] using this
      rcases ho with ⟨s', rfl, hs'⟩ | ⟨s', rfl, hb⟩
      · obtain ⟨o2, e2, h2⟩ := ih (n + 1) s' nxt hlt hs'
        refine ⟨o2, ?_, h2⟩
        show (f y s).bind _ = _
        rw [eo]
        exact e2
      · refine ⟨.bk s', ?_, .inr ⟨s', rfl, hb⟩⟩
        show (f y s).bind _ = _
        rw [eo]
        rfl
  exact gen xs 0 s rfl (Nat.zero_le _) h
theorem tot_thenB {S R ρ : Type} {W B : S → Prop} {P : ρ → Prop} {m : Option (Fl S R)} {k : S → Option ρ} {er : R → ρ} (h : Tot m fun o => (∃ s', o = .nx s' ∧ W s') ∨ ∃ s', o = .bk s' ∧ B s') (h2 : ∀ s, (W s ∨ B s) → Tot (k s) P) : Tot (thenF m k er) P := by
  obtain ⟨o, rfl, ⟨s', rfl, w⟩ | ⟨s', rfl, w⟩⟩ := h
  · exact h2 s' (.inl w)
  · exact h2 s' (.inr w)
/-- 2 to the power k, as a number that doubles -/
def pw (k : Nat) : Int := (2 : Int) ^ k
theorem pw_zero : pw 0 = 1 := rfl
theorem pw_succ (k : Nat) : pw (k + 1) = 2 * pw k := by
  unfold pw
  rw [Int.pow_succ, Int.mul_comm]
theorem pw_pos (k : Nat) : 0 < pw k := by
  induction k with
  | zero => decide
  | succ k ih => rw [pw_succ]; omega
theorem pw_add (a b : Nat) : pw (a + b) = pw a * pw b := by
  unfold pw
  exact Int.pow_add _ _ _
theorem pw_le {a b : Nat} (h : a ≤ b) : pw a ≤ pw b := by
  obtain ⟨c, rfl⟩ := Nat.exists_eq_add_of_le h
  rw [pw_add]
  have h1 := pw_pos a
  have h2 := pw_pos c
  have := Int.mul_le_mul_of_nonneg_left (show (1 : Int) ≤ pw c by omega) (show 0 ≤ pw a by omega)
  rw [Int.mul_one] at this
  exact this
theorem pw_lt {a b : Nat} (h : pw a < pw b) : a < b := by
  rcases Nat.lt_or_ge a b with q | q
  · exact q
  · have := pw_le q
    omega
theorem lg_pw (k : Nat) : lg (pw k) = k := by
  unfold lg pw
  have : ((2 : Int) ^ k).natAbs = 2 ^ k := by
    rw [Int.natAbs_pow]
    rfl
  rw [this, Nat.log2_two_pow]
/-- the number of binary digits -/
theorem bits_spec {x : Int} (h : 0 < x) : ∃ n : Nat, Builtin.Int.intBits x = n + 1 ∧ pw n ≤ x ∧ x < pw (n + 1) := by
  refine ⟨x.natAbs.log2, ?_, ?_, ?_⟩
  · unfold Builtin.Int.intBits
    rw [if_neg (by simp; omega)]
  · have := Nat.log2_self_le (show x.natAbs ≠ 0 by omega)
    have e : pw x.natAbs.log2 = ((2 ^ x.natAbs.log2 : Nat) : Int) := by unfold pw; simp
    rw [e]
    omega
  · have := lt_lg x
    unfold lg at this
    have e : pw (x.natAbs.log2 + 1) = ((2 ^ (x.natAbs.log2 + 1) : Nat) : Int) := by unfold pw; simp
    rw [e]
    omega
end DL
namespace DL
open PySem L2
section
variable {α β γ : Type}
theorem mapO_tot {f : α → Option β} {P : α → β → Prop} : ∀ {xs : List α}, (∀ x ∈ xs, Tot (f x) (P x)) → Tot (mapO xs f) fun (ys : List β) => ys.length = xs.length ∧ ∀ (i : Nat) (x : α), xs[i]? = some x → ∃ y, ys[i]? = some y ∧ P x y
  | [], _ => ⟨[], rfl, rfl, fun _ _ h => nomatch h⟩
  | x :: xs, h => by
    obtain ⟨y, e, p⟩ := h x List.mem_cons_self
    obtain ⟨ys, e2, l, q⟩ := mapO_tot (xs := xs) fun z hz => h z (List.mem_cons_of_mem _ hz)
    refine ⟨y :: ys, ?_, by simp [l], fun i z hz => ?_⟩
    · show (f x).bind _ = _
      rw [e]
      show (mapO xs f).bind _ = _
      rw [e2]
      rfl
    · cases i with
      | zero => cases hz; exact ⟨y, rfl, p⟩
      | succ i => exact q i z hz
theorem mapC_tot {xs : List α} {f : α → Option β} {P : α → β → Prop} (hl : xs.length ≤ 1000000) (h : ∀ x ∈ xs, Tot (f x) (P x)) : Tot (mapC xs f) fun (ys : List β) => ys.length = xs.length ∧ ∀ (i : Nat) (x : α), xs[i]? = some x → ∃ y, ys[i]? = some y ∧ P x y := by
  unfold mapC
  rw [if_pos hl]
  exact mapO_tot h
theorem mapO_all {f : α → Option β} {g : α → β} : ∀ {xs : List α}, (∀ x ∈ xs, f x = some (g x)) → mapO xs f = some (xs.map g)
  | [], _ => rfl
  | x :: xs, h => by
    show (f x).bind _ = _
    rw [h x List.mem_cons_self]
    show (mapO xs f).bind _ = _
    rw [mapO_all fun z hz => h z (List.mem_cons_of_mem _ hz)]
    rfl
theorem mapC_all {xs : List α} {f : α → Option β} {g : α → β} (hl : xs.length ≤ 1000000) (h : ∀ x ∈ xs, f x = some (g x)) : mapC xs f = some (xs.map g) := by
  unfold mapC
  rw [if_pos hl]
  exact mapO_all h
/-- every one of a list that is made -/
theorem mapC_each {xs : List α} {f : α → Option β} {P : β → Prop} (hl : xs.length ≤ 1000000) (h : ∀ x ∈ xs, Tot (f x) P) : Tot (mapC xs f) fun ys => ys.length = xs.length ∧ ∀ y ∈ ys, P y := by
  refine tot_imp (mapC_tot (P := fun _ y => P y) hl h) fun ys ⟨l, q⟩ => ⟨l, fun y hy => ?_⟩
  obtain ⟨i, hi⟩ := List.mem_iff_getElem?.mp hy
  have hlt : i < xs.length := by
    have := (List.getElem?_eq_some_iff.mp hi).1
    omega
  obtain ⟨z, e, p⟩ := q i _ (List.getElem?_eq_getElem hlt)
  rw [hi] at e
  cases e
  exact p
theorem minL_get {xs : List Int} (h : xs ≠ []) : ∃ m, minL xs = some m ∧ m ∈ xs ∧ ∀ y ∈ xs, m ≤ y := by
  match xs, h with
  | x :: xs, _ =>
    obtain ⟨h1, h2, h3⟩ := foldl_min xs x
    refine ⟨_, rfl, ?_, fun y hy => ?_⟩
    · rcases h1 with h | h
      · rw [h]; exact List.mem_cons_self
      · exact List.mem_cons_of_mem _ h
    · rcases List.mem_cons.mp hy with rfl | h
      · exact h2
      · exact h3 y h
theorem maxL_get {xs : List Int} (h : xs ≠ []) : ∃ m, maxL xs = some m ∧ m ∈ xs ∧ ∀ y ∈ xs, y ≤ m := by
  match xs, h with
  | x :: xs, _ =>
    obtain ⟨h1, h2, h3⟩ := foldl_max xs x
    refine ⟨_, rfl, ?_, fun y hy => ?_⟩
    · rcases h1 with h | h
      · rw [h]; exact List.mem_cons_self
      · exact List.mem_cons_of_mem _ h
    · rcases List.mem_cons.mp hy with rfl | h
      · exact h2
      · exact h3 y h
end
/-- x ** 2 by its size -/
theorem t_sqs {β : Type} {Q : β → Prop} {f : Int → Option β} {a : Int} {n : Nat} [h : Szl a n] (k : Tot (f (a * a)) Q) (hn : n ≤ 60000000 := by decide) : Tot ((powC a 2).bind f) Q := by
  rw [powC_two (Nat.le_trans h.le hn)]
  show Tot (f (a ^ (2 : Int).toNat)) Q
  rw [sq_eq]
  exact k
end DL
namespace DL
open PySem L2
/-! ranges downward -/
theorem rngD_len {lo hi : Int} : (rngD lo hi).length = (lo - hi).toNat := by
  unfold rngD
  rw [List.length_map, List.length_range]
theorem rngD_get {lo hi x : Int} {i : Nat} (h : (rngD lo hi)[i]? = some x) : x = lo - i ∧ (i : Int) < lo - hi := by
  unfold rngD at h
  rw [List.getElem?_map] at h
  by_cases hi' : i < (lo - hi).toNat
  · rw [List.getElem?_range hi'] at h
    cases h
    exact ⟨rfl, by omega⟩
  · rw [List.getElem?_eq_none (by simpa using hi')] at h
    cases h
theorem tot_rngD {β : Type} {Q : β → Prop} {lo hi : Int} {g : List Int → Option β} (h : -(2 ^ 62) ≤ lo ∧ lo < 2 ^ 62 ∧ -(2 ^ 62) ≤ hi ∧ hi < 2 ^ 62) (k : Tot (g (rngD lo hi)) Q) : Tot ((rngDC lo hi).bind g) Q := by
  unfold rngDC
  rw [if_pos h]
  exact k
/-- a loop by place, its state known -/
theorem tot_forLe {α S ρ : Type} {F : Nat → S} {f : α → S → Option S} {xs : List α} {s : S} {Q : ρ → Prop} {g : S → Option ρ} (h : s = F 0) (k : ∀ (i : Nat) x, xs[i]? = some x → f x (F i) = some (F (i + 1))) (q : Tot (g (F xs.length)) Q) : Tot ((forL xs s f).bind g) Q := by
  refine tot_bind (tot_forLi (W := fun i s => s = F i) h fun i x s hx hs => ?_) fun s hs => by rw [hs]; exact q
  subst hs
  exact ⟨_, k i x hx, rfl⟩
theorem at_get {α : Type} {xs : List α} {i : Int} {n : Nat} {x : α} (e : i = (n : Int)) (h : xs[n]? = some x) : atC xs i = some x := by
  subst e
  rw [atC_nat]
  exact h
theorem up_add {x d : Int} (hd : 0 < d) : (x + (d - 1)) / d = -((-x) / d) := by
  have h1 := Int.emod_add_mul_ediv (-x) d
  have h2 := Int.emod_nonneg (-x) (show d ≠ 0 by omega)
  have h3 := Int.emod_lt_of_pos (-x) hd
  generalize (-x) / d = q at h1 ⊢
  generalize (-x) % d = r at h1 h2 h3
  have e : x + (d - 1) = (d - 1 - -r) + d * (-q) + -r + -r := by
    rw [Int.mul_neg]
    omega
  have e : x + (d - 1) = (d - 1 - r) + d * (-q) := by
    rw [Int.mul_neg]
    omega
  rw [e, Int.add_mul_ediv_left _ _ (by omega), Int.ediv_eq_zero_of_lt (by omega) (by omega)]
  omega
end DL
namespace DL
open PySem L2
section
variable {α β : Type}
theorem mapO_idx {f : α → Option β} : ∀ {ks : List α} {ys : List β}, ks.length = ys.length → (∀ (i : Nat) k y, ks[i]? = some k → ys[i]? = some y → f k = some y) → mapO ks f = some ys
  | [], [], _, _ => rfl
  | k :: ks, y :: ys, hl, h => by
    show (f k).bind _ = _
    rw [h 0 k y rfl rfl]
    show (mapO ks f).bind _ = _
    rw [mapO_idx (ks := ks) (ys := ys) (by simpa using hl) fun i k y hk hy => h (i + 1) k y hk hy]
    rfl
  | [], _ :: _, hl, _ => by simp at hl
  | _ :: _, [], hl, _ => by simp at hl
theorem mapC_idx {f : α → Option β} {ks : List α} {ys : List β} (hl : ks.length = ys.length) (hn : ks.length ≤ 1000000) (h : ∀ (i : Nat) k y, ks[i]? = some k → ys[i]? = some y → f k = some y) : mapC ks f = some ys := by
  unfold mapC
  rw [if_pos hn]
  exact mapO_idx hl h
theorem mapP_eq {xs : List α} {f : α → β} (h : xs.length ≤ 1000000) : mapP xs f = some (xs.map f) := by
  unfold mapP
  rw [if_pos h]
end
/-- the quotient rounded up -/
def upq (n d : Int) : Int := -((-n) / d)
theorem upq_ok {n d : Int} (hd : 0 < d) : (upq n d - 1) * d < n ∧ n ≤ upq n d * d := by
  unfold upq
  have h1 := Int.emod_add_mul_ediv (-n) d
  have h2 := Int.emod_nonneg (-n) (show d ≠ 0 by omega)
  have h3 := Int.emod_lt_of_pos (-n) hd
  generalize (-n) / d = q at h1 ⊢
  generalize (-n) % d = r at h1 h2 h3
  have e1 : -q * d = -(d * q) := by rw [Int.neg_mul, Int.mul_comm]
  have e2 : (-q - 1) * d = -(d * q) - d := by rw [Int.sub_mul, e1, Int.one_mul]
  rw [e1, e2]
  constructor <;> omega
theorem upq_le {n d k : Int} (hd : 0 < d) : upq n d ≤ k ↔ n ≤ k * d := by
  obtain ⟨h1, h2⟩ := upq_ok (n := n) hd
  constructor
  · intro h
    exact Int.le_trans h2 (Int.mul_le_mul_of_nonneg_right h (by omega))
  · intro h
    rcases Int.lt_or_le k (upq n d) with q | q
    · have := Int.mul_le_mul_of_nonneg_right (show k ≤ upq n d - 1 by omega) (show 0 ≤ d by omega)
      omega
    · exact q
theorem upq_nonneg {n d : Int} (hd : 0 < d) (hn : 0 ≤ n) : 0 ≤ upq n d := by
  obtain ⟨h1, h2⟩ := upq_ok (n := n) hd
  rcases Int.lt_or_le (upq n d) 0 with q | q
  · have := Int.mul_neg_of_neg_of_pos q hd
    omega
  · exact q
instance szl_upq {n d : Int} {m : Nat} [h : Szl n m] : Szl (upq n d) (m + 1) := ⟨by
  unfold upq
  rw [lg_neg]
  rcases Int.lt_trichotomy d 0 with q | q | q
  · have e : (-n) / d = -((-n) / (-d)) := by
      rw [Int.ediv_neg, Int.neg_neg]
    rw [e, lg_neg]
    have := lg_div (x := -n) (y := -d) (by omega)
    rw [lg_neg] at this
    have := h.le
    omega
  · subst q
    rw [Int.ediv_zero]
    have : lg 0 = 0 := by decide
    omega
  · have := lg_div (x := -n) q
    rw [lg_neg] at this
    have := h.le
    omega⟩
end DL
namespace DL
open PySem L2
theorem t_asc {α β γ : Type} {m : Option α} {f : α → Option β} {g : β → Option γ} {Q : γ → Prop} (h : Tot ((m.bind f).bind g) Q) : Tot (m.bind fun x => (f x).bind g) Q := by
  rw [Option.bind_assoc] at h
  exact h
end DL
namespace DL
open PySem L2
mutual
theorem eqv_pd : ∀ d : Dt, PyData.eqv (pd d) (pd d) = true
  | .non => by simp [pd, PyData.eqv]
  | .bl b => by simp [pd, PyData.eqv]
  | .int i => by simp [pd, PyData.eqv]
  | .str s => by simp [pd, PyData.eqv]
  | .ty n => by simp [pd, PyData.eqv]
  | .tup xs => by simp [pd, PyData.eqv, eqv_pds xs]
  | .lst xs => by simp [pd, PyData.eqv, eqv_pds xs]
  | .obj _ _ => by simp [pd, PyData.eqv]
  | .dic _ _ => by simp [pd, PyData.eqv]
theorem eqv_pds : ∀ ds : List Dt, PyData.eqvAll (pds ds) (pds ds) = true
  | [] => by simp [pds, PyData.eqvAll]
  | x :: xs => by simp [pds, PyData.eqvAll, eqv_pd x, eqv_pds xs]
end
theorem eqD_self (d : Dt) : eqD d d = true := eqv_pd d
/-- a loop that appends -/
theorem app_loop {α β : Type} {f : α → List β → Option (List β)} {g : α → β} : ∀ {xs : List α} {s : List β}, (∀ x s, x ∈ xs → s.length < 10000000 → f x s = some (s ++ [g x])) → s.length + xs.length < 10000000 → forL xs s f = some (s ++ xs.map g)
  | [], s, _, _ => by rw [List.map_nil, List.append_nil]; rfl
  | x :: xs, s, h, hl => by
    rw [List.length_cons] at hl
    show (f x s).bind _ = _
    rw [h x s List.mem_cons_self (by omega)]
    show forL xs (s ++ [g x]) f = _
    rw [app_loop (xs := xs) (fun y t hy => h y t (List.mem_cons_of_mem _ hy)) (by rw [List.length_append, List.length_singleton]; omega)]
    rw [List.append_assoc]
    rfl
theorem appC_eq {α : Type} {xs : List α} {x : α} (h : xs.length < 10000000) : appC xs x = some (xs ++ [x]) := if_pos h
end DL
namespace DL
open PySem L2
/-- a loop over range(n) that appends one item a turn -/
theorem app_idx {β : Type} {n : Nat} {f : Int → List β → Option (List β)} {P : Nat → β → Prop} (h : ∀ (i : Nat) s, i < n → s.length = i → Tot (f (i : Int) s) fun s' => ∃ y, s' = s ++ [y] ∧ P i y) : Tot (forL (rng 0 (n : Int)) [] f) fun s => s.length = n ∧ ∀ (i : Nat) y, s[i]? = some y → P i y := by
  have hlen : (rng 0 (n : Int)).length = n := by rw [rng_len]; omega
  refine tot_imp (tot_forLi (W := fun i (s : List β) => s.length = i ∧ ∀ (k : Nat) y, s[k]? = some y → P k y) ⟨rfl, fun _ _ h => nomatch h⟩ fun i k s hk ⟨h1, h2⟩ => ?_) fun s h => by rw [hlen] at h; exact h
  obtain ⟨ek, hk2⟩ := rng_get hk
  have ek : k = (i : Int) := by omega
  subst ek
  refine tot_imp (h i s (by omega) h1) fun s' ⟨y, e, p⟩ => ?_
  subst e
  refine ⟨by rw [List.length_append, List.length_singleton, h1], fun k z hz => ?_⟩
  by_cases hki : k < i
  · rw [List.getElem?_append_left (by omega)] at hz
    exact h2 k z hz
  · have hlt := (List.getElem?_eq_some_iff.mp hz).1
    rw [List.length_append, List.length_singleton] at hlt
    have : k = i := by omega
    subst this
    rw [List.getElem?_append_right (by omega), h1, Nat.sub_self] at hz
    cases hz
    exact p
end DL

/-! Gm: plain geometry of places, lines and their gaps. -/
namespace DL
open PySem L2
theorem sq_nn (x : Int) : 0 ≤ x * x := by
  rcases Int.le_total 0 x with h | h
  · exact Int.mul_nonneg h h
  · exact Int.mul_nonneg_of_nonpos_of_nonpos h h
theorem cauchy (v w : V3) : dotv v w * dotv v w ≤ dotv v v * dotv w w := by
  have h1 := sq_nn (v.1 * w.2.1 - v.2.1 * w.1)
  have h2 := sq_nn (v.1 * w.2.2 - v.2.2 * w.1)
  have h3 := sq_nn (v.2.1 * w.2.2 - v.2.2 * w.2.1)
  have : dotv v v * dotv w w - dotv v w * dotv v w = (v.1 * w.2.1 - v.2.1 * w.1) * (v.1 * w.2.1 - v.2.1 * w.1) + (v.1 * w.2.2 - v.2.2 * w.1) * (v.1 * w.2.2 - v.2.2 * w.1) + (v.2.1 * w.2.2 - v.2.2 * w.2.1) * (v.2.1 * w.2.2 - v.2.2 * w.2.1) := by
    unfold dotv
    grind
  omega
theorem dotv_zero {v : V3} (h : dotv v v = 0) : v = (0, 0, 0) := by
  have e : v.1 * v.1 + v.2.1 * v.2.1 + v.2.2 * v.2.2 = 0 := h
  have s1 := sq_nn v.1
  have s2 := sq_nn v.2.1
  have s3 := sq_nn v.2.2
  have e1 : v.1 = 0 := (Int.mul_eq_zero.mp (show v.1 * v.1 = 0 by omega)).elim id id
  have e2 : v.2.1 = 0 := (Int.mul_eq_zero.mp (show v.2.1 * v.2.1 = 0 by omega)).elim id id
  have e3 : v.2.2 = 0 := (Int.mul_eq_zero.mp (show v.2.2 * v.2.2 = 0 by omega)).elim id id
  exact Prod.ext e1 (Prod.ext e2 e3)
/-- the nearest place of a line: the gap's vector and scale -/
def pgv (p a b : V3) : V3 × Int :=
  if dotv (subv p a) (subv b a) ≤ 0 then (subv p a, 1)
  else if dotv (subv b a) (subv b a) ≤ dotv (subv p a) (subv b a) then (subv p b, 1)
  else (subv (mulv (subv p a) (dotv (subv b a) (subv b a))) (mulv (subv b a) (dotv (subv p a) (subv b a))), dotv (subv b a) (subv b a))
/-- (p - a) * n - (b - a) * k -/
def on (p a b : V3) (n k : Int) : V3 := subv (mulv (subv p a) n) (mulv (subv b a) k)
theorem on_sq (p a b : V3) (n k : Int) : dotv (on p a b n k) (on p a b n k) = n * n * dotv (subv p a) (subv p a) - 2 * n * k * dotv (subv p a) (subv b a) + k * k * dotv (subv b a) (subv b a) := by
  unfold on
  generalize subv p a = O
  generalize subv b a = D
  unfold dotv subv mulv
  dsimp only
  grind
theorem pgv_at (p a b : V3) : 1 ≤ (pgv p a b).2 ∧ ∃ k, 0 ≤ k ∧ k ≤ (pgv p a b).2 ∧ (pgv p a b).1 = on p a b (pgv p a b).2 k := by
  have d0 := dotv_self_nonneg (subv b a)
  unfold pgv
  split
  · refine ⟨Int.le_refl _, 0, Int.le_refl _, (show (0 : Int) ≤ 1 by decide), ?_⟩
    unfold on subv mulv
    dsimp only
    simp
  · split
    · refine ⟨Int.le_refl _, 1, (show (0 : Int) ≤ 1 by decide), Int.le_refl _, ?_⟩
      unfold on subv mulv
      dsimp only
      refine Prod.ext ?_ (Prod.ext ?_ ?_) <;> (dsimp only; omega)
    · refine ⟨?_, dotv (subv p a) (subv b a), ?_, ?_, rfl⟩ <;> omega
/-- no place of the line is nearer -/
theorem pgv_least (p a b : V3) {n k : Int} (n0 : 0 < n) (k0 : 0 ≤ k) (kn : k ≤ n) : dotv (pgv p a b).1 (pgv p a b).1 * (n * n) ≤ dotv (on p a b n k) (on p a b n k) * ((pgv p a b).2 * (pgv p a b).2) := by
  have h0 := dotv_self_nonneg (subv b a)
  rw [on_sq]
  unfold pgv
  have e3 := on_sq p a b (dotv (subv b a) (subv b a)) (dotv (subv p a) (subv b a))
  unfold on at e3
  have e2 : dotv (subv p b) (subv p b) = dotv (subv p a) (subv p a) - 2 * dotv (subv p a) (subv b a) + dotv (subv b a) (subv b a) := by
    unfold dotv subv
    dsimp only
    grind
  generalize hoo : dotv (subv p a) (subv p a) = oo at *
  generalize dotv (subv p a) (subv b a) = od at *
  generalize hdd : dotv (subv b a) (subv b a) = dd at *
  by_cases c1 : od ≤ 0
  · rw [if_pos c1]
    dsimp only
    rw [hoo]
    have p1 := Int.mul_nonneg (show 0 ≤ n by omega) (Int.mul_nonneg k0 (show 0 ≤ -od by omega))
    have p2 := Int.mul_nonneg (sq_nn k) h0
    have : (n * n * oo - 2 * n * k * od + k * k * dd) * (1 * 1) - oo * (n * n) = 2 * (n * (k * -od)) + k * k * dd := by grind
    omega
  · rw [if_neg c1]
    by_cases c2 : dd ≤ od
    · rw [if_pos c2]
      dsimp only
      rw [e2]
      have p1 := Int.mul_nonneg (show 0 ≤ n - k by omega) (Int.mul_nonneg (show 0 ≤ n - k by omega) h0)
      have p2 := Int.mul_nonneg (show 0 ≤ n by omega) (Int.mul_nonneg (show 0 ≤ n - k by omega) (show 0 ≤ od - dd by omega))
      have : (n * n * oo - 2 * n * k * od + k * k * dd) * (1 * 1) - (oo - 2 * od + dd) * (n * n) = (n - k) * ((n - k) * dd) + 2 * (n * ((n - k) * (od - dd))) := by grind
      omega
    · rw [if_neg c2]
      dsimp only
      rw [e3]
      have p1 := Int.mul_nonneg h0 (sq_nn (n * od - k * dd))
      have : (n * n * oo - 2 * n * k * od + k * k * dd) * (dd * dd) - (dd * dd * oo - 2 * dd * od * od + od * od * dd) * (n * n) = dd * ((n * od - k * dd) * (n * od - k * dd)) := by grind
      omega
/-- A * n + D * t - E * u -/
def pt (A D E : V3) (t u n : Int) : V3 := subv (addv (mulv A n) (mulv D t)) (mulv E u)
theorem pt_sq (A D E : V3) (t u n : Int) : dotv (pt A D E t u n) (pt A D E t u n) = n * n * dotv A A + t * t * dotv D D + u * u * dotv E E + 2 * n * t * dotv D A - 2 * n * u * dotv E A - 2 * t * u * dotv D E := by
  unfold pt dotv subv addv mulv
  dsimp only
  grind
/-- of some pairs with first parts above 0, one whose second part is least for its first -/
theorem least_pair : ∀ (L : List (Int × Int)), L ≠ [] → (∀ p ∈ L, 0 < p.1) → ∃ p ∈ L, ∀ q ∈ L, 0 ≤ p.1 * q.2 - p.2 * q.1
  | [p], _, _ => ⟨p, List.mem_cons_self, fun q hq => by
    rw [List.mem_singleton] at hq
    subst hq
    rw [Int.mul_comm]
    omega⟩
  | p :: r :: L, _, h => by
    obtain ⟨m, hm, h2⟩ := least_pair (r :: L) (by simp) fun q hq => h q (List.mem_cons_of_mem _ hq)
    have p0 := h p List.mem_cons_self
    have m0 := h m (List.mem_cons_of_mem _ hm)
    by_cases c : 0 ≤ m.1 * p.2 - m.2 * p.1
    · refine ⟨m, List.mem_cons_of_mem _ hm, fun q hq => ?_⟩
      rcases List.mem_cons.mp hq with rfl | hq
      · exact c
      · exact h2 q hq
    · refine ⟨p, List.mem_cons_self, fun q hq => ?_⟩
      rcases List.mem_cons.mp hq with rfl | hq
      · rw [Int.mul_comm]; omega
      · have q0 := h q (List.mem_cons_of_mem _ hq)
        have a1 := h2 q hq
        have a2 := Int.mul_nonneg (show 0 ≤ p.1 by omega) a1
        have a3 := Int.mul_nonneg (show 0 ≤ q.1 by omega) (show 0 ≤ -(m.1 * p.2 - m.2 * p.1) by omega)
        have e : p.1 * (m.1 * q.2 - m.2 * q.1) + q.1 * -(m.1 * p.2 - m.2 * p.1) = m.1 * (p.1 * q.2 - p.2 * q.1) := by grind
        rw [← Int.add_zero 0] at a2
        have a4 : 0 ≤ m.1 * (p.1 * q.2 - p.2 * q.1) := by omega
        by_cases g : 0 ≤ p.1 * q.2 - p.2 * q.1
        · exact g
        · exfalso
          have := Int.mul_lt_mul_of_pos_left (show p.1 * q.2 - p.2 * q.1 < 0 by omega) m0
          rw [Int.mul_zero] at this
          omega
/-- a place within the square of parts -/
def Sq (t u n : Int) : Prop := 0 < n ∧ 0 ≤ t ∧ t ≤ n ∧ 0 ≤ u ∧ u ≤ n
/-- at its border -/
def Brd (t u n : Int) : Prop := Sq t u n ∧ (t = 0 ∨ t = n ∨ u = 0 ∨ u = n)
/-- where there is no crossing, some place at the border is as near -/
theorem to_border {A D E : V3} {a b c d e w tc uc : Int} (ha : a = dotv D D) (hb : b = dotv D E) (hc : c = dotv E E) (hd : d = dotv D A) (he : e = dotv E A) (hw : w = a * c - b * b) (htc : tc = b * e - c * d) (huc : uc = a * e - b * d)
    (no : w ≤ 0 ∨ tc ≤ 0 ∨ w ≤ tc ∨ uc ≤ 0 ∨ w ≤ uc) {t u n : Int} (hs : Sq t u n) :
    ∃ t' u' n', Brd t' u' n' ∧ dotv (pt A D E t' u' n') (pt A D E t' u' n') * (n * n) ≤ dotv (pt A D E t u n) (pt A D E t u n) * (n' * n') := by
  obtain ⟨n0, t0, tn, u0, un⟩ := hs
  by_cases bd : t = 0 ∨ t = n ∨ u = 0 ∨ u = n
  · exact ⟨t, u, n, ⟨⟨n0, t0, tn, u0, un⟩, bd⟩, Int.le_refl _⟩
  have a0 : 0 ≤ a := ha ▸ dotv_self_nonneg _
  have w0 : 0 ≤ w := by
    have := cauchy D E
    rw [← ha, ← hb, ← hc] at this
    omega
  by_cases wp : 0 < w
  · have wn := Int.mul_pos wp n0
    have pos : ∀ x, 0 < x → 0 < x * w := fun x h => Int.mul_pos h wp
    obtain ⟨p, hp, hmin⟩ := least_pair [(t * w, tc * n), ((n - t) * w, (w - tc) * n), (u * w, uc * n), ((n - u) * w, (w - uc) * n)] (by simp) (by
      intro p hp
      simp only [List.mem_cons, List.not_mem_nil, or_false] at hp
      rcases hp with rfl | rfl | rfl | rfl <;> exact pos _ (by omega))
    have m1 := hmin (t * w, tc * n) (by simp)
    have m2 := hmin ((n - t) * w, (w - tc) * n) (by simp)
    have m3 := hmin (u * w, uc * n) (by simp)
    have m4 := hmin ((n - u) * w, (w - uc) * n) (by simp)
    dsimp only at m1 m2 m3 m4
    have lam : 0 < p.1 := by
      simp only [List.mem_cons, List.not_mem_nil, or_false] at hp
      rcases hp with rfl | rfl | rfl | rfl <;> exact pos _ (by omega)
    have neg : ∀ x y : Int, 0 < x → y ≤ 0 → 0 ≤ p.1 * (y * n) - p.2 * (x * w) → p.2 ≤ 0 := fun x y hx hy h => by
      by_cases g : p.2 ≤ 0
      · exact g
      · exfalso
        have k1 := Int.mul_pos (show 0 < p.2 by omega) (pos x hx)
        have k2 := Int.mul_nonneg (show 0 ≤ p.1 by omega) (Int.mul_nonneg (show 0 ≤ -y by omega) (show 0 ≤ n by omega))
        rw [Int.neg_mul, Int.mul_neg] at k2
        omega
    have mu : p.2 ≤ 0 := by
      rcases no with h | h | h | h | h
      · omega
      · exact neg t tc (by omega) h m1
      · exact neg (n - t) (w - tc) (by omega) (by omega) m2
      · exact neg u uc (by omega) h m3
      · exact neg (n - u) (w - uc) (by omega) (by omega) m4
    refine ⟨-p.2 * (t * w) + p.1 * (tc * n), -p.2 * (u * w) + p.1 * (uc * n), (-p.2 + p.1) * (n * w), ⟨⟨?_, ?_, ?_, ?_, ?_⟩, ?_⟩, ?_⟩
    · exact Int.mul_pos (by omega) (Int.mul_pos n0 wp)
    · rw [Int.neg_mul]; omega
    · have : (-p.2 + p.1) * (n * w) - (-p.2 * (t * w) + p.1 * (tc * n)) = p.1 * ((w - tc) * n) - p.2 * ((n - t) * w) := by grind
      omega
    · rw [Int.neg_mul]; omega
    · have : (-p.2 + p.1) * (n * w) - (-p.2 * (u * w) + p.1 * (uc * n)) = p.1 * ((w - uc) * n) - p.2 * ((n - u) * w) := by grind
      omega
    · simp only [List.mem_cons, List.not_mem_nil, or_false] at hp
      rcases hp with rfl | rfl | rfl | rfl
      · left; grind
      · right; left; grind
      · right; right; left; grind
      · right; right; right; grind
    · rw [pt_sq, pt_sq, ← ha, ← hb, ← hc, ← hd, ← he]
      generalize dotv A A = h
      have R0 : 0 ≤ (w * t - n * tc) * (w * t - n * tc) * a + (w * u - n * uc) * (w * u - n * uc) * c - 2 * (w * t - n * tc) * (w * u - n * uc) * b := by
        have e1 : (w * t - n * tc) * (w * t - n * tc) * a + (w * u - n * uc) * (w * u - n * uc) * c - 2 * (w * t - n * tc) * (w * u - n * uc) * b = dotv (subv (mulv D (w * t - n * tc)) (mulv E (w * u - n * uc))) (subv (mulv D (w * t - n * tc)) (mulv E (w * u - n * uc))) := by
          rw [ha, hb, hc]
          unfold dotv subv mulv
          dsimp only
          grind
        rw [e1]
        exact dotv_self_nonneg _
      have f0 : 0 ≤ p.1 * p.1 - 2 * p.1 * p.2 := by
        have := Int.mul_nonneg (show 0 ≤ p.1 by omega) (show 0 ≤ p.1 - 2 * p.2 by omega)
        have e1 : p.1 * (p.1 - 2 * p.2) = p.1 * p.1 - 2 * p.1 * p.2 := by grind
        omega
      have all := Int.mul_nonneg (sq_nn n) (Int.mul_nonneg R0 f0)
      have k1 : a * tc - b * uc = -(d * w) := by subst hw htc huc; grind
      have k2 : c * uc - b * tc = e * w := by subst hw htc huc; grind
      have hx : w * w * (n * n * h + t * t * a + u * u * c + 2 * n * t * d - 2 * n * u * e - 2 * t * u * b) = n * n * (w * (w * h + tc * d - uc * e)) + ((w * t - n * tc) * (w * t - n * tc) * a + (w * u - n * uc) * (w * u - n * uc) * c - 2 * (w * t - n * tc) * (w * u - n * uc) * b) := by
        have e1 : d * w = b * uc - a * tc := by omega
        grind
      have hy : ∀ T U N : Int, T = -p.2 * (t * w) + p.1 * (tc * n) → U = -p.2 * (u * w) + p.1 * (uc * n) → N = (-p.2 + p.1) * (n * w) →
          N * N * h + T * T * a + U * U * c + 2 * N * T * d - 2 * N * U * e - 2 * T * U * b = p.2 * p.2 * (w * w * (n * n * h + t * t * a + u * u * c + 2 * n * t * d - 2 * n * u * e - 2 * t * u * b)) + p.1 * p.1 * (n * n * (w * (w * h + tc * d - uc * e))) - 2 * p.2 * p.1 * (n * n * (w * (w * h + tc * d - uc * e))) := by
        intro T U N hT hU hN
        subst hT hU hN
        have e1 : d * w = b * uc - a * tc := by omega
        grind
      rw [hy _ _ _ rfl rfl rfl]
      generalize n * n * h + t * t * a + u * u * c + 2 * n * t * d - 2 * n * u * e - 2 * t * u * b = Fx at *
      generalize w * (w * h + tc * d - uc * e) = S at *
      generalize (w * t - n * tc) * (w * t - n * tc) * a + (w * u - n * uc) * (w * u - n * uc) * c - 2 * (w * t - n * tc) * (w * u - n * uc) * b = R at *
      have fin : Fx * ((-p.2 + p.1) * (n * w) * ((-p.2 + p.1) * (n * w))) - (p.2 * p.2 * (w * w * Fx) + p.1 * p.1 * (n * n * S) - 2 * p.2 * p.1 * (n * n * S)) * (n * n) = n * n * (R * (p.1 * p.1 - 2 * p.1 * p.2)) := by grind
      omega
  · have wz : w = 0 := by omega
    by_cases az : a = 0
    · have D0 : D = (0, 0, 0) := dotv_zero (by rw [← ha]; exact az)
      refine ⟨0, u, n, ⟨⟨n0, Int.le_refl _, by omega, u0, un⟩, .inl rfl⟩, ?_⟩
      have e1 : pt A D E 0 u n = pt A D E t u n := by
        subst D0
        unfold pt addv subv mulv
        simp
      rw [e1]
      exact Int.le_refl _
    · have ap : 0 < a := by omega
      have Z : subv (mulv D b) (mulv E a) = (0, 0, 0) := dotv_zero (by
        have e1 : dotv (subv (mulv D b) (mulv E a)) (subv (mulv D b) (mulv E a)) = a * w := by
          have e2 : dotv (subv (mulv D b) (mulv E a)) (subv (mulv D b) (mulv E a)) = b * b * dotv D D - 2 * a * b * dotv D E + a * a * dotv E E := by
            unfold dotv subv mulv
            dsimp only
            grind
          rw [e2, ← ha, ← hb, ← hc, hw]
          grind
        rw [e1, wz, Int.mul_zero])
      obtain ⟨p, hp, hmin⟩ := least_pair [(t, b), (n - t, -b), (u, a), (n - u, -a)] (by simp) (by
        intro p hp
        simp only [List.mem_cons, List.not_mem_nil, or_false] at hp
        rcases hp with rfl | rfl | rfl | rfl <;> (dsimp only; omega))
      have m1 := hmin (t, b) (by simp)
      have m2 := hmin (n - t, -b) (by simp)
      have m3 := hmin (u, a) (by simp)
      have m4 := hmin (n - u, -a) (by simp)
      dsimp only at m1 m2 m3 m4
      have lam : 0 < p.1 := by
        simp only [List.mem_cons, List.not_mem_nil, or_false] at hp
        rcases hp with rfl | rfl | rfl | rfl <;> (dsimp only; omega)
      have mu : p.2 < 0 := by
        by_cases g : p.2 < 0
        · exact g
        · exfalso
          have k1 := Int.mul_nonneg (show 0 ≤ p.2 by omega) (show 0 ≤ n - u by omega)
          have k2 := Int.mul_pos lam ap
          rw [Int.mul_neg] at m4
          omega
      refine ⟨-p.2 * t + p.1 * b, -p.2 * u + p.1 * a, -p.2 * n, ⟨⟨?_, ?_, ?_, ?_, ?_⟩, ?_⟩, ?_⟩
      · exact Int.mul_pos (by omega) n0
      · rw [Int.neg_mul]; omega
      · have : -p.2 * n - (-p.2 * t + p.1 * b) = p.1 * -b - p.2 * (n - t) := by grind
        omega
      · rw [Int.neg_mul]; omega
      · have : -p.2 * n - (-p.2 * u + p.1 * a) = p.1 * -a - p.2 * (n - u) := by grind
        omega
      · simp only [List.mem_cons, List.not_mem_nil, or_false] at hp
        rcases hp with rfl | rfl | rfl | rfl
        · left; grind
        · right; left; grind
        · right; right; left; grind
        · right; right; right; grind
      · have z1 : D.1 * b = E.1 * a := by
          have := congrArg Prod.fst Z
          simp only [subv, mulv] at this
          omega
        have z2 : D.2.1 * b = E.2.1 * a := by
          have := congrArg (fun v => v.2.1) Z
          simp only [subv, mulv] at this
          omega
        have z3 : D.2.2 * b = E.2.2 * a := by
          have := congrArg (fun v => v.2.2) Z
          simp only [subv, mulv] at this
          omega
        have e1 : pt A D E (-p.2 * t + p.1 * b) (-p.2 * u + p.1 * a) (-p.2 * n) = mulv (pt A D E t u n) (-p.2) := by
          unfold pt addv subv mulv
          refine Prod.ext ?_ (Prod.ext ?_ ?_) <;> (dsimp only; grind)
        have e2 : ∀ (v : V3) (k : Int), dotv (mulv v k) (mulv v k) = k * k * dotv v v := fun v k => by
          unfold dotv mulv
          dsimp only
          grind
        rw [e1, e2]
        generalize dotv (pt A D E t u n) (pt A D E t u n) = F
        have : -p.2 * -p.2 * F * (n * n) = F * (-p.2 * n * (-p.2 * n)) := by grind
        omega

/-! ### the gap of two lines -/
def cgv (A D E : V3) : Option (V3 × Int) :=
  if dotv D D * dotv E E - dotv D E * dotv D E ≤ 0 then none
  else if 0 < dotv D E * dotv E A - dotv E E * dotv D A ∧ dotv D E * dotv E A - dotv E E * dotv D A < dotv D D * dotv E E - dotv D E * dotv D E ∧ 0 < dotv D D * dotv E A - dotv D E * dotv D A ∧ dotv D D * dotv E A - dotv D E * dotv D A < dotv D D * dotv E E - dotv D E * dotv D E then
    some (pt A D E (dotv D E * dotv E A - dotv E E * dotv D A) (dotv D D * dotv E A - dotv D E * dotv D A) (dotv D D * dotv E E - dotv D E * dotv D E), dotv D D * dotv E E - dotv D E * dotv D E)
  else none
def negv (g : V3 × Int) : V3 × Int := (mulv g.1 (-1), g.2)
def lgl (p0 p1 q0 q1 : V3) : List (V3 × Int) :=
  (cgv (subv p0 q0) (subv p1 p0) (subv q1 q0)).toList ++ [pgv p0 q0 q1, pgv p1 q0 q1, negv (pgv q0 p0 p1), negv (pgv q1 p0 p1)]
def shorterv (g k : V3 × Int) : Bool := decide (dotv g.1 g.1 * k.2 * k.2 < dotv k.1 k.1 * g.2 * g.2)
def shortestv (gs : List (V3 × Int)) : V3 × Int := gs.foldl (fun b g => if shorterv g b = true then g else b) (gs.headD ((0, 0, 0), 1))
theorem frac_trans {x y z sx sy sz : Int} (h : 0 < sy) (h1 : x * (sy * sy) ≤ y * (sx * sx)) (h2 : y * (sz * sz) ≤ z * (sy * sy)) : x * (sz * sz) ≤ z * (sx * sx) := by
  have a1 := Int.mul_le_mul_of_nonneg_right h1 (sq_nn sz)
  have a2 := Int.mul_le_mul_of_nonneg_right h2 (sq_nn sx)
  have pos := Int.mul_pos h h
  have e1 : x * (sy * sy) * (sz * sz) = (sy * sy) * (x * (sz * sz)) := by grind
  have e2 : z * (sy * sy) * (sx * sx) = (sy * sy) * (z * (sx * sx)) := by grind
  have e3 : y * (sx * sx) * (sz * sz) = y * (sz * sz) * (sx * sx) := by grind
  exact Int.le_of_mul_le_mul_left (show (sy * sy) * (x * (sz * sz)) ≤ (sy * sy) * (z * (sx * sx)) by omega) pos
theorem fold_short (gs all : List (V3 × Int)) (b : V3 × Int) (hb : b ∈ all) (hg : ∀ g ∈ gs, g ∈ all) (pos : ∀ g ∈ all, 1 ≤ g.2) :
    let r := gs.foldl (fun b g => if shorterv g b = true then g else b) b
    r ∈ all ∧ dotv r.1 r.1 * (b.2 * b.2) ≤ dotv b.1 b.1 * (r.2 * r.2) ∧ ∀ g ∈ gs, dotv r.1 r.1 * (g.2 * g.2) ≤ dotv g.1 g.1 * (r.2 * r.2) := by
  induction gs generalizing b with
  | nil => exact ⟨hb, Int.le_refl _, fun _ h => nomatch h⟩
  | cons g gs ih =>
    intro r
    have gm := hg g List.mem_cons_self
    have key : dotv (if shorterv g b = true then g else b).1 (if shorterv g b = true then g else b).1 * (b.2 * b.2) ≤ dotv b.1 b.1 * ((if shorterv g b = true then g else b).2 * (if shorterv g b = true then g else b).2) ∧ dotv (if shorterv g b = true then g else b).1 (if shorterv g b = true then g else b).1 * (g.2 * g.2) ≤ dotv g.1 g.1 * ((if shorterv g b = true then g else b).2 * (if shorterv g b = true then g else b).2) ∧ (if shorterv g b = true then g else b) ∈ all := by
      by_cases c : shorterv g b = true
      · rw [if_pos c]
        have c := of_decide_eq_true c
        rw [Int.mul_assoc, Int.mul_assoc] at c
        exact ⟨by omega, Int.le_refl _, gm⟩
      · rw [if_neg c]
        have c : ¬ (dotv g.1 g.1 * b.2 * b.2 < dotv b.1 b.1 * g.2 * g.2) := fun h => c (decide_eq_true h)
        rw [Int.mul_assoc, Int.mul_assoc] at c
        exact ⟨Int.le_refl _, by omega, hb⟩
    obtain ⟨k1, k2, k3⟩ := key
    obtain ⟨r1, r2, r3⟩ := ih _ k3 fun x hx => hg x (List.mem_cons_of_mem _ hx)
    have bp := pos _ k3
    refine ⟨r1, frac_trans (by omega) r2 k1, fun x hx => ?_⟩
    rcases List.mem_cons.mp hx with rfl | hx
    · exact frac_trans (by omega) r2 k2
    · exact r3 x hx
theorem shortestv_ok {gs : List (V3 × Int)} (h : gs ≠ []) (pos : ∀ g ∈ gs, 1 ≤ g.2) : shortestv gs ∈ gs ∧ ∀ g ∈ gs, dotv (shortestv gs).1 (shortestv gs).1 * (g.2 * g.2) ≤ dotv g.1 g.1 * ((shortestv gs).2 * (shortestv gs).2) := by
  match gs, h with
  | g :: gs, _ =>
    obtain ⟨a, _, c⟩ := fold_short (g :: gs) (g :: gs) g List.mem_cons_self (fun _ h => h) pos
    exact ⟨a, c⟩
section
variable (p0 p1 q0 q1 : V3)
theorem on_t0 (n k : Int) : on p0 q0 q1 n k = pt (subv p0 q0) (subv p1 p0) (subv q1 q0) 0 k n := by
  unfold on pt subv addv mulv
  refine Prod.ext ?_ (Prod.ext ?_ ?_) <;> (dsimp only; grind)
theorem on_t1 (n k : Int) : on p1 q0 q1 n k = pt (subv p0 q0) (subv p1 p0) (subv q1 q0) n k n := by
  unfold on pt subv addv mulv
  refine Prod.ext ?_ (Prod.ext ?_ ?_) <;> (dsimp only; grind)
theorem on_u0 (n k : Int) : mulv (on q0 p0 p1 n k) (-1) = pt (subv p0 q0) (subv p1 p0) (subv q1 q0) k 0 n := by
  unfold on pt subv addv mulv
  refine Prod.ext ?_ (Prod.ext ?_ ?_) <;> (dsimp only; grind)
theorem on_u1 (n k : Int) : mulv (on q1 p0 p1 n k) (-1) = pt (subv p0 q0) (subv p1 p0) (subv q1 q0) k n n := by
  unfold on pt subv addv mulv
  refine Prod.ext ?_ (Prod.ext ?_ ?_) <;> (dsimp only; grind)
theorem dotv_neg (v : V3) : dotv (mulv v (-1)) (mulv v (-1)) = dotv v v := by
  unfold dotv mulv
  dsimp only
  grind
/-- each gap that is tried is that of two places of the lines -/
theorem lgl_at : ∀ g ∈ lgl p0 p1 q0 q1, 1 ≤ g.2 ∧ ∃ t u, Sq t u g.2 ∧ g.1 = pt (subv p0 q0) (subv p1 p0) (subv q1 q0) t u g.2 := by
  intro g hg
  unfold lgl at hg
  rcases List.mem_append.mp hg with hg | hg
  · unfold cgv at hg
    split at hg
    · cases hg
    · rename_i c0
      split at hg
      · rename_i c
        rw [Option.toList_some, List.mem_singleton] at hg
        subst hg
        exact ⟨by dsimp only; omega, _, _, ⟨by dsimp only; omega, by omega, by dsimp only; omega, by omega, by dsimp only; omega⟩, rfl⟩
      · cases hg
  · simp only [List.mem_cons, List.not_mem_nil, or_false] at hg
    rcases hg with rfl | rfl | rfl | rfl
    · obtain ⟨h1, k, k0, k1, e⟩ := pgv_at p0 q0 q1
      exact ⟨h1, 0, k, ⟨by omega, Int.le_refl _, by omega, k0, k1⟩, by rw [← on_t0]; exact e⟩
    · obtain ⟨h1, k, k0, k1, e⟩ := pgv_at p1 q0 q1
      exact ⟨h1, _, k, ⟨by omega, by omega, Int.le_refl _, k0, k1⟩, by rw [← on_t1]; exact e⟩
    · obtain ⟨h1, k, k0, k1, e⟩ := pgv_at q0 p0 p1
      exact ⟨h1, k, 0, ⟨by show 0 < (pgv q0 p0 p1).2; omega, k0, k1, Int.le_refl _, by show 0 ≤ (pgv q0 p0 p1).2; omega⟩, by rw [← on_u0]; show mulv _ _ = _; rw [e]; rfl⟩
    · obtain ⟨h1, k, k0, k1, e⟩ := pgv_at q1 p0 p1
      exact ⟨h1, k, _, ⟨by show 0 < (pgv q1 p0 p1).2; omega, k0, k1, by show 0 ≤ (pgv q1 p0 p1).2; omega, Int.le_refl _⟩, by rw [← on_u1]; show mulv _ _ = _; rw [e]; rfl⟩
theorem lgl_ne : lgl p0 p1 q0 q1 ≠ [] := by
  unfold lgl
  simp
/-- the gap of the lines: no difference of two places of them is shorter -/
theorem line_least {t u n : Int} (h : Sq t u n) : dotv (shortestv (lgl p0 p1 q0 q1)).1 (shortestv (lgl p0 p1 q0 q1)).1 * (n * n) ≤ dotv (pt (subv p0 q0) (subv p1 p0) (subv q1 q0) t u n) (pt (subv p0 q0) (subv p1 p0) (subv q1 q0) t u n) * ((shortestv (lgl p0 p1 q0 q1)).2 * (shortestv (lgl p0 p1 q0 q1)).2) := by
  obtain ⟨_, least⟩ := shortestv_ok (lgl_ne p0 p1 q0 q1) fun g hg => (lgl_at p0 p1 q0 q1 g hg).1
  generalize shortestv (lgl p0 p1 q0 q1) = r at least ⊢
  have fin : ∀ g ∈ lgl p0 p1 q0 q1, ∀ F m, 0 < m → dotv g.1 g.1 * (m * m) ≤ F * (g.2 * g.2) → dotv r.1 r.1 * (m * m) ≤ F * (r.2 * r.2) := fun g hg F m hm h2 =>
    frac_trans (sy := g.2) (by have := (lgl_at p0 p1 q0 q1 g hg).1; omega) (least g hg) h2
  have border : ∀ t' u' n', Brd t' u' n' → dotv r.1 r.1 * (n' * n') ≤ dotv (pt (subv p0 q0) (subv p1 p0) (subv q1 q0) t' u' n') (pt (subv p0 q0) (subv p1 p0) (subv q1 q0) t' u' n') * (r.2 * r.2) := by
    intro t' u' n' ⟨⟨n0, t0, tn, u0, un⟩, b⟩
    rcases b with rfl | rfl | rfl | rfl
    · exact fin (pgv p0 q0 q1) (by unfold lgl; simp) _ _ n0 (by rw [← on_t0]; exact pgv_least p0 q0 q1 n0 u0 un)
    · exact fin (pgv p1 q0 q1) (by unfold lgl; simp) _ _ n0 (by rw [← on_t1]; exact pgv_least p1 q0 q1 n0 u0 un)
    · exact fin (negv (pgv q0 p0 p1)) (by unfold lgl; simp) _ _ n0 (by rw [← on_u0, dotv_neg]; show dotv (mulv _ _) (mulv _ _) * _ ≤ _; rw [dotv_neg]; exact pgv_least q0 p0 p1 n0 t0 tn)
    · exact fin (negv (pgv q1 p0 p1)) (by unfold lgl; simp) _ _ n0 (by rw [← on_u1, dotv_neg]; show dotv (mulv _ _) (mulv _ _) * _ ≤ _; rw [dotv_neg]; exact pgv_least q1 p0 p1 n0 t0 tn)
  have hA : ∃ A, A = subv p0 q0 := ⟨_, rfl⟩
  have hD : ∃ D, D = subv p1 p0 := ⟨_, rfl⟩
  have hE : ∃ E, E = subv q1 q0 := ⟨_, rfl⟩
  obtain ⟨A, hA⟩ := hA
  obtain ⟨D, hD⟩ := hD
  obtain ⟨E, hE⟩ := hE
  by_cases c : dotv D D * dotv E E - dotv D E * dotv D E ≤ 0 ∨ dotv D E * dotv E A - dotv E E * dotv D A ≤ 0 ∨ dotv D D * dotv E E - dotv D E * dotv D E ≤ dotv D E * dotv E A - dotv E E * dotv D A ∨ dotv D D * dotv E A - dotv D E * dotv D A ≤ 0 ∨ dotv D D * dotv E E - dotv D E * dotv D E ≤ dotv D D * dotv E A - dotv D E * dotv D A
  · obtain ⟨t', u', n', hb, hl⟩ := to_border (A := A) rfl rfl rfl rfl rfl rfl rfl rfl c h
    have b := border t' u' n' hb
    rw [← hA, ← hD, ← hE] at b ⊢
    exact frac_trans (sy := n') hb.1.1 b hl
  · have hc : cgv A D E = some (pt A D E (dotv D E * dotv E A - dotv E E * dotv D A) (dotv D D * dotv E A - dotv D E * dotv D A) (dotv D D * dotv E E - dotv D E * dotv D E), dotv D D * dotv E E - dotv D E * dotv D E) := by
      unfold cgv
      rw [if_neg (by omega), if_pos (by omega)]
    have hm : (pt A D E (dotv D E * dotv E A - dotv E E * dotv D A) (dotv D D * dotv E A - dotv D E * dotv D A) (dotv D D * dotv E E - dotv D E * dotv D E), dotv D D * dotv E E - dotv D E * dotv D E) ∈ lgl p0 p1 q0 q1 := by
      unfold lgl
      rw [← hA, ← hD, ← hE, hc]
      simp
    refine fin _ hm _ _ h.1 ?_
    rw [← hA, ← hD, ← hE]
    dsimp only
    have R0 : 0 ≤ dotv (subv (mulv D ((dotv D D * dotv E E - dotv D E * dotv D E) * t - n * (dotv D E * dotv E A - dotv E E * dotv D A))) (mulv E ((dotv D D * dotv E E - dotv D E * dotv D E) * u - n * (dotv D D * dotv E A - dotv D E * dotv D A)))) (subv (mulv D ((dotv D D * dotv E E - dotv D E * dotv D E) * t - n * (dotv D E * dotv E A - dotv E E * dotv D A))) (mulv E ((dotv D D * dotv E E - dotv D E * dotv D E) * u - n * (dotv D D * dotv E A - dotv D E * dotv D A)))) := dotv_self_nonneg _
    have eR : ∀ x y : Int, dotv (subv (mulv D x) (mulv E y)) (subv (mulv D x) (mulv E y)) = x * x * dotv D D + y * y * dotv E E - 2 * x * y * dotv D E := fun x y => by
      unfold dotv subv mulv
      dsimp only
      grind
    rw [eR] at R0
    rw [pt_sq, pt_sq]
    generalize dotv D D = a at *
    generalize dotv D E = b at *
    clear hc hm
    clear c
    generalize dotv E E = c at *
    generalize dotv D A = d at *
    generalize dotv E A = e at *
    generalize dotv A A = h at *
    have q : ∀ w tc uc : Int, w = a * c - b * b → tc = b * e - c * d → uc = a * e - b * d →
        (n * n * h + t * t * a + u * u * c + 2 * n * t * d - 2 * n * u * e - 2 * t * u * b) * (w * w) = (w * w * h + tc * tc * a + uc * uc * c + 2 * w * tc * d - 2 * w * uc * e - 2 * tc * uc * b) * (n * n) + ((w * t - n * tc) * (w * t - n * tc) * a + (w * u - n * uc) * (w * u - n * uc) * c - 2 * (w * t - n * tc) * (w * u - n * uc) * b) := by
      intro w tc uc h1 h2 h3
      subst h1 h2 h3
      grind
    have := q _ _ _ rfl rfl rfl
    omega
/-- so the gap's vector is at most as far along itself as any difference of ends -/
theorem line_ends {t u : Int} (ht : 0 ≤ t ∧ t ≤ 1) (hu : 0 ≤ u ∧ u ≤ 1) : 0 ≤ dotv (shortestv (lgl p0 p1 q0 q1)).1 (subv (mulv (pt (subv p0 q0) (subv p1 p0) (subv q1 q0) t u 1) (shortestv (lgl p0 p1 q0 q1)).2) (shortestv (lgl p0 p1 q0 q1)).1) := by
  have least := fun t u n h => line_least p0 p1 q0 q1 (t := t) (u := u) (n := n) h
  obtain ⟨s1, T, U, hS, e⟩ := lgl_at p0 p1 q0 q1 _ (shortestv_ok (lgl_ne p0 p1 q0 q1) fun g hg => (lgl_at p0 p1 q0 q1 g hg).1).1
  generalize shortestv (lgl p0 p1 q0 q1) = r at *
  obtain ⟨V, s⟩ := r
  dsimp only at *
  generalize subv p0 q0 = A at *
  generalize subv p1 p0 = D at *
  generalize subv q1 q0 = E at *
  have hX : ∃ X, X = subv (mulv (pt A D E t u 1) s) V := ⟨_, rfl⟩
  obtain ⟨X, hX⟩ := hX
  rw [← hX]
  by_cases g : 0 ≤ dotv V X
  · exact g
  · exfalso
    have x0 := dotv_self_nonneg X
    have hN : ∃ n, n = dotv X X + 1 := ⟨_, rfl⟩
    obtain ⟨n, hN⟩ := hN
    have n1 : 1 ≤ n := by omega
    obtain ⟨h0, h1, h2, h3, h4⟩ := hS
    have sq : Sq ((n - 1) * T + t * s) ((n - 1) * U + u * s) (n * s) := by
      have e1 : n * s - ((n - 1) * T + t * s) = (n - 1) * (s - T) + (1 - t) * s := by grind
      have e2 : n * s - ((n - 1) * U + u * s) = (n - 1) * (s - U) + (1 - u) * s := by grind
      have a1 := Int.mul_nonneg (show 0 ≤ n - 1 by omega) h1
      have a2 := Int.mul_nonneg ht.1 (show 0 ≤ s by omega)
      have a3 := Int.mul_nonneg (show 0 ≤ n - 1 by omega) h3
      have a4 := Int.mul_nonneg hu.1 (show 0 ≤ s by omega)
      have a5 := Int.mul_nonneg (show 0 ≤ n - 1 by omega) (show 0 ≤ s - T by omega)
      have a6 := Int.mul_nonneg (show 0 ≤ 1 - t by omega) (show 0 ≤ s by omega)
      have a7 := Int.mul_nonneg (show 0 ≤ n - 1 by omega) (show 0 ≤ s - U by omega)
      have a8 := Int.mul_nonneg (show 0 ≤ 1 - u by omega) (show 0 ≤ s by omega)
      exact ⟨Int.mul_pos (by omega) (by omega), by omega, by omega, by omega, by omega⟩
    have l := least _ _ _ sq
    have ep : pt A D E ((n - 1) * T + t * s) ((n - 1) * U + u * s) (n * s) = addv (mulv V n) X := by
      rw [hX, e]
      unfold pt subv addv mulv
      refine Prod.ext ?_ (Prod.ext ?_ ?_) <;> (dsimp only; grind)
    have ex : dotv (addv (mulv V n) X) (addv (mulv V n) X) = n * n * dotv V V + 2 * n * dotv V X + dotv X X := by
      unfold dotv addv mulv
      dsimp only
      grind
    rw [ep, ex] at l
    have pos := Int.mul_pos (show 0 < s by omega) (show 0 < s by omega)
    have e3 : dotv V V * (n * s * (n * s)) = (s * s) * (n * n * dotv V V) := by grind
    have e4 : (n * n * dotv V V + 2 * n * dotv V X + dotv X X) * (s * s) = (s * s) * (n * n * dotv V V + 2 * n * dotv V X + dotv X X) := Int.mul_comm _ _
    rw [e3, e4] at l
    have l2 := Int.le_of_mul_le_mul_left l pos
    have l3 := Int.mul_le_mul_of_nonneg_left (show dotv V X ≤ -1 by omega) (show 0 ≤ 2 * n by omega)
    omega
end
end DL

namespace G
open PySem L2 DL
/-! the drawn number and its digits -/
theorem number_ok {ns : List Int} {k : Int} (hb : ∀ z ∈ ns, Builtin.Int.intBits z ≤ 1048576) (hl : ns.length ≤ 63) (hk : 0 ≤ k ∧ k ≤ 1000) : Tot (m__law_number ns k) fun x => Szl x 1048700 := by
  unfold m__law_number
  haveI : Szl k 10 := szl_le (szl_abs_of (B := 1000) (by omega)) (by decide)
  refine t_lt (t_bind (P := fun c => Szl c 1048576) (tot_ite (fun h => ?_) fun _ => tot_some ⟨by decide⟩) fun c hc => ?_)
  · have h := of_decide_eq_true h
    obtain ⟨x, e, m, _⟩ := atC_get (xs := ns) hk.1 h
    exact t_eq e (tot_some ⟨lg_bits (hb x m)⟩)
  haveI := hc
  refine t_bind (P := fun c => Szl c 1048600) (tot_ite (fun _ => t_mul (t_lt (tot_some ?_))) fun _ => tot_some (szl_le hc (by decide))) fun c hc => ?_
  · exact szl_le (inferInstance : Szl (1 - 2 * c) _) (by decide)
  haveI := hc
  refine tot_ite (fun _ => tot_some (szl_le hc (by decide))) fun _ => ?_
  refine t_mul (t_mul (t_mod (by decide) fun y _ _ _ hy => t_mul (t_mul (t_mod (by decide) fun z _ _ _ hz => ?_))))
  haveI := hy; haveI := hz
  exact t_mul (tot_some (szl_le (inferInstance : Szl (y * 2147483399 + z) _) (by decide)))
def Dg (s : List Int) : Prop := ∃ n, s = [n]
theorem digits_ok {ns : List Int} {k c : Int} (hb : ∀ z ∈ ns, Builtin.Int.intBits z ≤ 1048576) (hl : ns.length ≤ 63) (hk : 0 ≤ k ∧ k ≤ 900) (hc : 0 ≤ c ∧ c ≤ 60) : Tot (m__law_digits ns k c) Dg := by
  unfold m__law_digits
  refine t_lt (tot_rng (by omega) (t_bind (P := fun _ => True) (tot_imp (tot_forLi (W := fun i (s : Int) => i ≤ 60 → Szl s (1100000 * i + 10)) (fun _ => ⟨by decide⟩) fun i j s hj hs => ?_) fun _ _ => trivial) fun s _ => tot_some ⟨s, rfl⟩))
  obtain ⟨ej, hj2⟩ := rng_get hj
  have hi : i < 60 := by
    have := (List.getElem?_eq_some_iff.mp hj).1
    rw [rng_len] at this
    omega
  haveI := hs (by omega)
  obtain ⟨x, ex, hx⟩ := number_ok (k := k + c - 1 - j) hb hl (by omega)
  haveI := hx
  refine tot_mul ?_ (t_eq ex (t_lt (tot_some fun _ => ?_)))
  · have := (hs (by omega)).le
    have : lg (4611686018427387904 : Int) ≤ 63 := by decide
    omega
  · have a := (hs (by omega)).le
    have b : lg (4611686018427387904 : Int) ≤ 63 := by decide
    have c := lg_mul s 4611686018427387904
    have d := hx.le
    have e := lg_add (s * 4611686018427387904) x
    exact ⟨by omega⟩
theorem dig {ds : List Int} {many : Int} (hd : Dg ds) (h : 0 < many) (h2 : many ≤ 1000000) : Tot (m__law_digit ds many) fun r => (0 ≤ r.1 ∧ r.1 < many) ∧ Dg r.2 := by
  obtain ⟨n, rfl⟩ := hd
  haveI : Szl many 20 := szl_le (szl_abs_of (B := 1000000) (by omega)) (by decide)
  unfold m__law_digit
  exact t_eq (x := n) rfl (t_mod h fun x _ x0 x1 _ => t_eq (x := n) rfl (t_div h (t_eq (x := [n / many]) rfl (tot_some ⟨⟨x0, x1⟩, _, rfl⟩)) (by decide)))
theorem mapS_tot {α β S : Type} {W : S → Prop} {P : α → β → Prop} {f : α → S → Option (β × S)} : ∀ {xs : List α} {s : S}, W s → (∀ x s, x ∈ xs → W s → Tot (f x s) fun r => P x r.1 ∧ W r.2) → Tot (mapS f xs s) fun r => (r.1.length = xs.length ∧ ∀ (i : Nat) x, xs[i]? = some x → ∃ y, r.1[i]? = some y ∧ P x y) ∧ W r.2
  | [], s, h, _ => tot_some ⟨⟨rfl, fun i x e => by cases e⟩, h⟩
  | x :: xs, s, h, k => by
    show Tot ((f x s).bind fun r => (mapS f xs r.2).bind fun q => some (r.1 :: q.1, q.2)) _
    refine t_bind (k x s (List.mem_cons_self ..) h) fun r ⟨p, w⟩ => ?_
    refine t_bind (mapS_tot (xs := xs) w fun y t m => k y t (List.mem_cons_of_mem _ m)) fun q ⟨⟨l, a⟩, w2⟩ => tot_some ⟨⟨congrArg (· + 1) l, fun i z e => ?_⟩, w2⟩
    cases i with
    | zero => cases e; exact ⟨_, rfl, p⟩
    | succ i => exact a i z e
theorem mapSC_tot {α β S : Type} {W : S → Prop} {P : α → β → Prop} {f : α → S → Option (β × S)} {xs : List α} {s : S} (hl : xs.length ≤ 1000000) (h : W s) (k : ∀ x s, x ∈ xs → W s → Tot (f x s) fun r => P x r.1 ∧ W r.2) : Tot (mapSC xs s f) fun r => (r.1.length = xs.length ∧ ∀ (i : Nat) x, xs[i]? = some x → ∃ y, r.1[i]? = some y ∧ P x y) ∧ W r.2 := by
  unfold mapSC
  rw [if_pos hl]
  exact mapS_tot h k
theorem mem2 {α : Type} {x a b : α} (h : x ∈ [a, b]) : x = a ∨ x = b := by
  rcases List.mem_cons.mp h with e | e
  · exact .inl e
  · exact .inr (List.mem_singleton.mp e)
/-! a loop that looks for the first -/
theorem forF_find {α S R : Type} {s : S} {c : α → Bool} {g : α → R} {f : α → S → Option (Fl S R)} : ∀ {xs : List α}, (∀ x ∈ xs, f x s = some (if c x = true then .rt (g x) else .nx s)) → forF xs s f = some (match xs.find? c with | some x => .rt (g x) | none => .nx s)
  | [], _ => rfl
  | x :: xs, h => by
    show (f x s).bind (Fl.step fun s' => forF xs s' f) = _
    rw [h x (List.mem_cons_self ..)]
    by_cases q : c x = true
    · rw [if_pos q, List.find?_cons_of_pos q]
      rfl
    · rw [if_neg q, List.find?_cons_of_neg q]
      exact forF_find fun y m => h y (List.mem_cons_of_mem _ m)
theorem find_loop {α R ρ : Type} {c : α → Bool} {g : α → R} {f : α → Unit → Option (Fl Unit R)} {xs : List α} {k : Unit → Option ρ} {e : R → ρ} (h : ∀ x ∈ xs, f x () = some (if c x = true then .rt (g x) else .nx ())) : thenF (forF xs () f) k e = (xs.find? c).elim (k ()) fun x => some (e (g x)) := by
  rw [forF_find h]
  cases xs.find? c <;> rfl
theorem tot_find1 {α : Type} {o : Option α} : Tot (o.elim (some none) fun x => some (some x)) fun z => z = o := by cases o <;> exact tot_some rfl
theorem tot_find2 {α : Type} {o : Option α} : Tot (o.elim (some true) fun _ => some false) fun z => z = o.isNone := by cases o <;> exact tot_some rfl
theorem lay_w {s : Str} (h : s.cps.toList.all (· < 0x110000) = true) : PyData.canLay0 (.str s) = true := by
  show s.cps.all (· < 0x110000) = true
  rw [← Array.all_toList]
  exact h
theorem at_getD {α : Type} {xs : List α} {k : Int} (d : α) (h0 : 0 ≤ k) (h : k < xs.length) : atC xs k = some (xs[k.toNat]?.getD d) := by
  obtain ⟨x, e, _, e2⟩ := atC_get h0 h
  rw [e, e2]
  rfl
theorem setC_eq {α : Type} {xs : List α} {k : Int} {x : α} (h0 : 0 ≤ k) (h : k < xs.length) : setC xs k x = some (xs.set k.toNat x) := by
  obtain ⟨n, rfl⟩ : ∃ n : Nat, k = n := ⟨k.toNat, by omega⟩
  have hn : n < xs.length := by omega
  unfold setC ixN
  first
    | (rw [if_pos (by omega), if_pos (by omega)]; rfl)
    | (simp [hn])
theorem compO_fil {α : Type} {c : α → Bool} : ∀ {xs : List α}, compO xs (fun x => if c x = true then (some x).bind fun y => some (some y) else some none) = some (xs.filter c)
  | [] => rfl
  | x :: xs => by
    have ih := compO_fil (c := c) (xs := xs)
    show ((if c x = true then (some x).bind fun y => some (some y) else some none) : Option (Option α)).bind _ = _
    by_cases q : c x = true
    · rw [if_pos q, List.filter_cons_of_pos q]
      show (compO xs _).bind _ = _
      rw [ih]
      rfl
    · rw [if_neg q, List.filter_cons_of_neg q]
      show (compO xs _).bind _ = _
      rw [ih]
      rfl
theorem filC_eq {α : Type} {c : α → Bool} {xs : List α} (h : xs.length ≤ 1000000) : filC xs (fun x => if c x = true then (some x).bind fun y => some (some y) else some none) = some (xs.filter c) := by
  unfold filC
  rw [if_pos h]
  exact compO_fil
theorem shD_mono {n : Nat} {d : Dt} (h : shD n d = true) : shD (n + 1) d = true := by
  induction n generalizing d with
  | zero =>
    cases d with
    | tup xs => unfold shD at h; cases h
    | lst xs => unfold shD at h; cases h
    | str s => unfold shD at h ⊢; exact h
    | _ => first | rfl | (unfold shD at h; cases h)
  | succ n ih =>
    cases d with
    | tup xs =>
      unfold shD at h ⊢
      exact List.all_eq_true.mpr fun x hx => ih (List.all_eq_true.mp h x hx)
    | lst xs =>
      unfold shD at h ⊢
      exact List.all_eq_true.mpr fun x hx => ih (List.all_eq_true.mp h x hx)
    | _ => first | exact h | (unfold shD at h; cases h)
theorem shD_le {m n : Nat} {d : Dt} (h : shD m d = true) (k : m ≤ n) : shD n d = true := by
  induction n with
  | zero => rwa [show (0 : Nat) = m by omega]
  | succ n ih =>
    by_cases c : m = n + 1
    · rwa [← c]
    · exact shD_mono (ih (by omega))
theorem eqDC_same {n : Nat} {x : Dt} (h : shD n x = true) (k : n ≤ 64) : eqDC x x = some true := by
  have h := shD_le h k
  unfold eqDC
  rw [h, if_pos (by rfl)]
  exact congrArg some (eqD_self x)
theorem shD_tup {n : Nat} {xs : List Dt} (h : ∀ x ∈ xs, shD n x = true) : shD (n + 1) (.tup xs) = true := by
  unfold shD
  exact List.all_eq_true.mpr h
theorem shD_lst {n : Nat} {xs : List Dt} (h : ∀ x ∈ xs, shD n x = true) : shD (n + 1) (.lst xs) = true := by
  unfold shD
  exact List.all_eq_true.mpr h
theorem shD_dV {α : Type} {n : Nat} {em : α → Dt} {xs : List α} (h : ∀ x ∈ xs, shD n (em x) = true) : shD (n + 1) (dV em xs) = true := shD_tup fun d hd => by
  obtain ⟨x, hx, rfl⟩ := List.mem_map.mp hd
  exact h x hx

theorem enum_map {α β : Type} {g : Int × α → β} {h : Int → β} (d : α) : ∀ (xs : List α), (∀ k : Int, 0 ≤ k → k < xs.length → g (k, xs[k.toNat]?.getD d) = h k) → (enumL xs 0).map g = (rng 0 xs.length).map h := fun xs hg => by
  refine List.ext_getElem? fun i => ?_
  rw [List.getElem?_map, enumL_get]
  unfold rng
  rw [List.getElem?_map, List.getElem?_map]
  by_cases c : i < xs.length
  · rw [List.getElem?_range (by omega), List.getElem?_eq_getElem c]
    show some (g (0 + (i : Int), xs[i])) = some (h (0 + (i : Int)))
    rw [← hg (0 + (i : Int)) (by omega) (by omega)]
    rw [show (0 + (i : Int)).toNat = i by omega, List.getElem?_eq_getElem c]
    rfl
  · rw [List.getElem?_eq_none (by omega), List.getElem?_eq_none (by rw [List.length_range]; omega)]
    rfl

/-! plans that the law draws -/
abbrev Spt := Int × Str × Option Str
abbrev Sta := List Spt × List Str
abbrev Blk := Int × Plc × Int × Plc
theorem w_move_move : decide (("move" : Str) = ("move" : Str)) = true := decide_eq_true rfl
theorem w_move_hold : decide (("move" : Str) = ("hold" : Str)) = false := by decide
theorem w_move_set : decide (("move" : Str) = ("set" : Str)) = false := by decide
theorem w_move_wait : decide (("move" : Str) = ("wait" : Str)) = false := by decide
theorem w_move_jump : decide (("move" : Str) = ("jump" : Str)) = false := by decide
theorem w_move_if : decide (("move" : Str) = ("if" : Str)) = false := by decide
theorem w_hold_move : decide (("hold" : Str) = ("move" : Str)) = false := by decide
theorem w_hold_hold : decide (("hold" : Str) = ("hold" : Str)) = true := decide_eq_true rfl
theorem w_hold_set : decide (("hold" : Str) = ("set" : Str)) = false := by decide
theorem w_hold_wait : decide (("hold" : Str) = ("wait" : Str)) = false := by decide
theorem w_hold_jump : decide (("hold" : Str) = ("jump" : Str)) = false := by decide
theorem w_hold_if : decide (("hold" : Str) = ("if" : Str)) = false := by decide
theorem w_set_move : decide (("set" : Str) = ("move" : Str)) = false := by decide
theorem w_set_hold : decide (("set" : Str) = ("hold" : Str)) = false := by decide
theorem w_set_set : decide (("set" : Str) = ("set" : Str)) = true := decide_eq_true rfl
theorem w_set_wait : decide (("set" : Str) = ("wait" : Str)) = false := by decide
theorem w_set_jump : decide (("set" : Str) = ("jump" : Str)) = false := by decide
theorem w_set_if : decide (("set" : Str) = ("if" : Str)) = false := by decide
theorem w_wait_move : decide (("wait" : Str) = ("move" : Str)) = false := by decide
theorem w_wait_hold : decide (("wait" : Str) = ("hold" : Str)) = false := by decide
theorem w_wait_set : decide (("wait" : Str) = ("set" : Str)) = false := by decide
theorem w_wait_wait : decide (("wait" : Str) = ("wait" : Str)) = true := decide_eq_true rfl
theorem w_wait_jump : decide (("wait" : Str) = ("jump" : Str)) = false := by decide
theorem w_wait_if : decide (("wait" : Str) = ("if" : Str)) = false := by decide
theorem w_jump_move : decide (("jump" : Str) = ("move" : Str)) = false := by decide
theorem w_jump_hold : decide (("jump" : Str) = ("hold" : Str)) = false := by decide
theorem w_jump_set : decide (("jump" : Str) = ("set" : Str)) = false := by decide
theorem w_jump_wait : decide (("jump" : Str) = ("wait" : Str)) = false := by decide
theorem w_jump_jump : decide (("jump" : Str) = ("jump" : Str)) = true := decide_eq_true rfl
theorem w_jump_if : decide (("jump" : Str) = ("if" : Str)) = false := by decide
theorem w_if_move : decide (("if" : Str) = ("move" : Str)) = false := by decide
theorem w_if_hold : decide (("if" : Str) = ("hold" : Str)) = false := by decide
theorem w_if_set : decide (("if" : Str) = ("set" : Str)) = false := by decide
theorem w_if_wait : decide (("if" : Str) = ("wait" : Str)) = false := by decide
theorem w_if_jump : decide (("if" : Str) = ("jump" : Str)) = false := by decide
theorem w_if_if : decide (("if" : Str) = ("if" : Str)) = true := decide_eq_true rfl
def PtOk (p : Str) : Prop := p = "p" ∨ p = "q"
def HeOk (h : Option Str) : Prop := h = none ∨ h = some "x"
def SgOk (s : Str) : Prop := s = "s" ∨ s = "t"
def PlcOk : Plc → Prop
  | .w_rest p h => PtOk p ∧ HeOk h
  | .w_move p q h => PtOk p ∧ PtOk q ∧ HeOk h
def StpOk (n : Nat) (i : Int) : Stp → Prop
  | .w_move p => PtOk p
  | .w_hold h => HeOk h
  | .w_set s _ => SgOk s
  | .w_wait s _ => SgOk s
  | .w_jump t => i < t ∧ t ≤ n
  | .w_if s t => s = "i" ∧ i < t ∧ t ≤ n
def FlowOk (fl : List Stp) : Prop := ∀ (i : Nat) x, fl[i]? = some x → StpOk fl.length i x
structure PlanOk (fls : List (List Stp)) (sts : List Str) (bl : List Blk) : Prop where
  n1 : 1 ≤ fls.length
  n4 : fls.length ≤ 4
  ok : ∀ fl ∈ fls, FlowOk fl
  sz : ∀ fl ∈ fls, fl.length * fls.length ≤ 10
  sl : sts.length = fls.length
  so : ∀ s ∈ sts, PtOk s
  bn : bl.length ≤ 8
  bo : ∀ x ∈ bl, ((0 ≤ x.1 ∧ x.1 < fls.length) ∧ (0 ≤ x.2.2.1 ∧ x.2.2.1 < fls.length) ∧ x.1 ≠ x.2.2.1) ∧ PlcOk x.2.1 ∧ PlcOk x.2.2.2
theorem law_step_ok {ds : List Int} {i size : Int} {sg : List Str} (hd : Dg ds) (h : 0 ≤ i ∧ i < size ∧ size ≤ 1000) (s1 : 1 ≤ sg.length ∧ sg.length ≤ 2) (s2 : ∀ s ∈ sg, SgOk s) {n : Nat} (hn : size = n) : Tot (m__law_step ds i size sg) fun r => StpOk n i r.1 ∧ Dg r.2 := by
  unfold m__law_step
  refine t_bind (dig hd (by decide) (by decide)) fun t1 ⟨r1, d1⟩ => ?_
  refine t_bind (dig d1 (by omega) (by omega)) fun t2 ⟨r2, d2⟩ => ?_
  refine t_bind (dig d2 (by omega) (by omega)) fun t3 ⟨r3, d3⟩ => ?_
  refine t_at r3.1 r3.2 fun sn m4 _ => ?_
  have hs := s2 sn m4
  refine tot_ite (fun _ => ?_) fun _ => tot_ite (fun _ => ?_) fun _ => tot_ite (fun _ => ?_) fun _ => tot_ite (fun _ => ?_) fun _ => tot_ite (fun _ => ?_) fun _ => tot_ite (fun _ => ?_) fun _ => ?_
  · refine t_bind (dig d3 (by decide) (by decide)) fun t5 ⟨r5, d5⟩ => t_at r5.1 (by exact r5.2) fun x m _ => tot_some ⟨mem2 m, d5⟩
  · refine t_bind (dig d3 (by decide) (by decide)) fun t5 ⟨r5, d5⟩ => t_at r5.1 (by exact r5.2) fun x m _ => tot_some ⟨mem2 m, d5⟩
  · refine t_bind (dig d3 (by decide) (by decide)) fun t5 ⟨r5, d5⟩ => tot_some ⟨hs, d5⟩
  · refine t_bind (dig d3 (by decide) (by decide)) fun t5 ⟨r5, d5⟩ => tot_some ⟨hs, d5⟩
  · exact tot_some ⟨⟨by omega, by omega⟩, d3⟩
  · exact tot_some ⟨⟨rfl, by omega, by omega⟩, d3⟩
  · refine tot_mod (by decide) fun a b => t_at a (by exact b) fun x m _ => tot_some ⟨?_, d3⟩
    exact (mem2 m).symm
theorem law_place_ok {ds : List Int} (hd : Dg ds) : Tot (m__law_place ds) fun r => PlcOk r.1 ∧ Dg r.2 := by
  unfold m__law_place
  refine t_bind (dig hd (by decide) (by decide)) fun t1 ⟨r1, d1⟩ => t_at r1.1 (by exact r1.2) fun p mp _ => ?_
  refine t_bind (dig d1 (by decide) (by decide)) fun t2 ⟨r2, d2⟩ => t_at r2.1 (by exact r2.2) fun h mh _ => ?_
  refine t_bind (dig d2 (by decide) (by decide)) fun t3 ⟨r3, d3⟩ => tot_ite (fun _ => tot_some ⟨⟨mem2 mp, mem2 mh⟩, d3⟩) fun _ => ?_
  exact t_bind (dig d3 (by decide) (by decide)) fun t4 ⟨r4, d4⟩ => t_at r4.1 (by exact r4.2) fun q mq _ => tot_some ⟨⟨mem2 mp, mem2 mq, mem2 mh⟩, d4⟩
theorem law_plan_ok {ds : List Int} (hd : Dg ds) : Tot (m__law_plan ds) fun r => PlanOk r.1.1 r.1.2.1 r.1.2.2 ∧ Dg r.2 := by
  unfold m__law_plan
  refine t_bind (dig hd (by decide) (by decide)) fun t1 ⟨r1, d1⟩ => t_at r1.1 (by exact r1.2) fun n mn _ => ?_
  have hn : n = 1 ∨ n = 2 ∨ n = 3 ∨ n = 4 := by
    simp only [List.mem_cons, List.not_mem_nil, or_false] at mn
    omega
  refine t_at (by omega) (by show n < (5 : Int); omega) fun most _ em => ?_
  have hm : 1 ≤ most ∧ most ≤ 8 ∧ most * n ≤ 10 := by
    rcases hn with rfl | rfl | rfl | rfl <;> (cases em; decide)
  clear em mn r1
  refine t_lt (t_bind (P := fun sg : List Str => (1 ≤ sg.length ∧ sg.length ≤ 2) ∧ ∀ s ∈ sg, SgOk s) (tot_ite (fun _ => t_lt (tot_some ⟨⟨by decide, by decide⟩, fun s m => .inl (List.mem_singleton.mp m)⟩)) fun _ => tot_some ⟨⟨by decide, by decide⟩, fun s m => mem2 m⟩) fun sg hsg => t_lt (tot_rng (by omega) ?_))
  refine t_bind (P := fun r : List (List Stp) × List Int => r.1.length = n.toNat ∧ (∀ fl ∈ r.1, FlowOk fl ∧ (fl.length : Int) * n ≤ 10) ∧ Dg r.2) ?_ fun r ⟨rl, ra, rd⟩ => ?_
  · refine tot_imp (tot_forLi (W := fun i (r : List (List Stp) × List Int) => r.1.length = i ∧ (∀ fl ∈ r.1, FlowOk fl ∧ (fl.length : Int) * n ≤ 10) ∧ Dg r.2) ⟨rfl, (fun fl m => by cases m), d1⟩ fun i x s hx ⟨sl, sa, sd⟩ => ?_) fun r h => by
      rw [rng_len] at h
      exact ⟨by rw [h.1]; omega, h.2⟩
    have hi : (i : Int) < n := by
      have := (rng_get hx).2
      omega
    refine t_bind (dig sd (by omega) (by omega)) fun t2 ⟨r2, d2⟩ => ?_
    refine tot_mod (by decide) fun a b => ?_
    refine tot_rng (by omega) ?_
    have hz : ∃ z : Nat, most - t2.1 % 3 = z := ⟨(most - t2.1 % 3).toNat, by omega⟩
    obtain ⟨z, hz⟩ := hz
    have hz8 : (z : Int) ≤ most := by omega
    refine t_bind (mapSC_tot (W := Dg) (P := fun (i : Int) x => StpOk z i x) (by rw [rng_len]; omega) d2 fun j s hj ds => ?_) fun r3 ⟨⟨l3, a3⟩, d3⟩ => ?_
    · have hj := mem_rng.mp hj
      exact t_bind (law_step_ok ds ⟨hj.1, hj.2, by omega⟩ hsg.1 hsg.2 hz) fun y hy => tot_some hy
    · rw [rng_len] at l3
      refine tot_app (by omega) (tot_some ⟨by rw [List.length_append, sl]; rfl, fun fl m => ?_, d3⟩)
      rcases List.mem_append.mp m with m | m
      · exact sa fl m
      · rw [List.mem_singleton] at m
        subst m
        have l3 : r3.1.length = z := by omega
        refine ⟨fun i x e => ?_, ?_⟩
        · have hi : i < r3.1.length := (List.getElem?_eq_some_iff.mp e).1
          obtain ⟨y, ey, py⟩ := a3 i (i : Int) (by
            have : i < (most - t2.1 % 3 - 0).toNat := by omega
            unfold rng
            rw [List.getElem?_map, List.getElem?_range this]
            show some (0 + (i : Int)) = _
            rw [Int.zero_add])
          rw [e] at ey
          cases ey
          rw [l3]
          exact py
        · rw [l3]
          exact Int.le_trans (Int.mul_le_mul_of_nonneg_right hz8 (by omega)) hm.2.2
  · refine tot_rng (by omega) ?_
    refine t_bind (mapSC_tot (W := Dg) (P := fun (_ : Int) x => PtOk x) (by rw [rng_len]; omega) rd fun j s hj ds => ?_) fun r3 ⟨⟨l3, a3⟩, d3⟩ => ?_
    · exact t_bind (dig ds (by decide) (by decide)) fun t2 ⟨r2, d2⟩ => t_at r2.1 (by exact r2.2) fun p mp _ => tot_some ⟨mem2 mp, d2⟩
    rw [rng_len] at l3
    refine t_lt (t_bind (dig d3 (by decide) (by decide)) fun t4 ⟨r4, d4⟩ => tot_rng (by omega) ?_)
    refine t_bind (P := fun q : List Blk × List Int => (q.1.length ≤ 8 ∧ ∀ x ∈ q.1, ((0 ≤ x.1 ∧ x.1 < n) ∧ (0 ≤ x.2.2.1 ∧ x.2.2.1 < n) ∧ x.1 ≠ x.2.2.1) ∧ PlcOk x.2.1 ∧ PlcOk x.2.2.2) ∧ Dg q.2) ?_ fun q ⟨⟨q1, q2⟩, q3⟩ => tot_some ⟨⟨?_, ?_, ?_, ?_, ?_, ?_, q1, ?_⟩, q3⟩
    · refine tot_imp (tot_forLi (W := fun i (q : List Blk × List Int) => (q.1.length ≤ i ∧ ∀ x ∈ q.1, ((0 ≤ x.1 ∧ x.1 < n) ∧ (0 ≤ x.2.2.1 ∧ x.2.2.1 < n) ∧ x.1 ≠ x.2.2.1) ∧ PlcOk x.2.1 ∧ PlcOk x.2.2.2) ∧ Dg q.2) ⟨⟨Nat.zero_le _, (fun fl m => by cases m)⟩, d4⟩ fun i x s hx ⟨⟨sl, sa⟩, sd⟩ => ?_) fun q h => by
        rw [rng_len] at h
        exact ⟨⟨by have := h.1.1; omega, h.1.2⟩, h.2⟩
      have hi := (rng_get hx).2
      refine t_bind (dig sd (by omega) (by omega)) fun t5 ⟨r5, d5⟩ => ?_
      refine t_bind (dig d5 (by omega) (by omega)) fun t6 ⟨r6, d6⟩ => ?_
      refine t_bind (law_place_ok d6) fun t7 ⟨r7, d7⟩ => ?_
      refine t_bind (P := fun q : List Blk × List Int => (q.1.length ≤ i + 1 ∧ ∀ x ∈ q.1, ((0 ≤ x.1 ∧ x.1 < n) ∧ (0 ≤ x.2.2.1 ∧ x.2.2.1 < n) ∧ x.1 ≠ x.2.2.1) ∧ PlcOk x.2.1 ∧ PlcOk x.2.2.2) ∧ Dg q.2) (tot_ite (fun c => ?_) fun _ => tot_some ⟨⟨Nat.le_succ_of_le sl, sa⟩, d7⟩) fun q hq => tot_some hq
      refine t_bind (law_place_ok d7) fun t8 ⟨r8, d8⟩ => tot_app (by omega) (tot_some ⟨⟨by rw [List.length_append]; exact Nat.succ_le_succ sl, fun y m => ?_⟩, d8⟩)
      rcases List.mem_append.mp m with m | m
      · exact sa y m
      · rw [List.mem_singleton] at m
        subst m
        refine ⟨⟨r5, r6, fun e => ?_⟩, r7, r8⟩
        have e : t5.1 = t6.1 := e
        rw [e, decide_eq_true rfl] at c
        cases c
    · show 1 ≤ r.1.length
      omega
    · show r.1.length ≤ 4
      omega
    · exact fun fl m => (ra fl m).1
    · intro fl m
      have := (ra fl m).2
      show fl.length * r.1.length ≤ 10
      have e : (n : Int) = (r.1.length : Int) := by omega
      rw [e] at this
      exact Int.ofNat_le.mp (by rw [Int.natCast_mul]; exact this)
    · show r3.1.length = r.1.length
      omega
    · intro s m
      obtain ⟨i, hi, rfl⟩ := List.getElem_of_mem m
      have hi : i < r3.1.length := hi
      have hi2 : i < (n - 0).toNat := by omega
      obtain ⟨y, ey, py⟩ := a3 i (0 + (i : Int)) (by
        unfold rng
        rw [List.getElem?_map, List.getElem?_range hi2]
        rfl)
      rw [List.getElem?_eq_getElem hi] at ey
      cases ey
      exact py
    · have e : (n : Int) = (r.1.length : Int) := by omega
      rw [e] at q2
      exact q2

/-! what a plan does, in plain words -/
def flA (fls : List (List Stp)) (k : Int) : List Stp := fls[k.toNat]?.getD []
def spA (st : Sta) (k : Int) : Spt := st.1[k.toNat]?.getD (0, ("" : Str), none)
def atP (fls : List (List Stp)) (st : Sta) (k : Int) : Option Stp := (flA fls k)[(spA st k).1.toNat]?
def jmp (fl : List Stp) (i : Int) : Option Int := match fl[i.toNat]? with
  | some (.w_jump t) => some t
  | _ => none
def stepL (fl : List Stp) (i : Int) : Int := (jmp fl i).getD i
def landN (fl : List Stp) : Nat → Int → Int
  | 0, i => i
  | n + 1, i => landN fl n (stepL fl i)
def landP (fl : List Stp) (i : Int) : Int := landN fl (fl.length + 1) i
theorem landN_add (fl : List Stp) : ∀ (m n : Nat) (i : Int), landN fl (m + n) i = landN fl n (landN fl m i)
  | 0, n, i => by rw [Nat.zero_add]; rfl
  | m + 1, n, i => by
    rw [Nat.add_right_comm]
    exact landN_add fl m n _
theorem landN_fix {fl : List Stp} {i : Int} (h : jmp fl i = none) : ∀ n, landN fl n i = i
  | 0 => rfl
  | n + 1 => by
    show landN fl n (stepL fl i) = i
    have e : stepL fl i = i := by unfold stepL; rw [h]; rfl
    rw [e]
    exact landN_fix h n
theorem flA_get {fls : List (List Stp)} {k : Int} (h0 : 0 ≤ k) (h : k < fls.length) : fls[k.toNat]? = some (flA fls k) := by
  unfold flA
  obtain ⟨x, e, _, e2⟩ := atC_get h0 h
  rw [e2]
  rfl
theorem atF {fls : List (List Stp)} {k : Int} (h0 : 0 ≤ k) (h : k < fls.length) : atC fls k = some (flA fls k) := at_getD [] h0 h
theorem flA_mem {fls : List (List Stp)} {k : Int} (h0 : 0 ≤ k) (h : k < fls.length) : flA fls k ∈ fls := List.mem_of_getElem? (flA_get h0 h)
theorem jmp_ok {fl : List Stp} {i t : Int} (hf : FlowOk fl) (h0 : 0 ≤ i) (h : jmp fl i = some t) : i < t ∧ t ≤ fl.length := by
  unfold jmp at h
  cases q : fl[i.toNat]? with
  | none => rw [q] at h; cases h
  | some x =>
    rw [q] at h
    have := hf i.toNat x q
    cases x <;> first | (cases h; done) | skip
    cases h
    obtain ⟨a, b⟩ := this
    exact ⟨by omega, b⟩
theorem stepL_ok {fl : List Stp} {i : Int} (hf : FlowOk fl) (h0 : 0 ≤ i) (h : i ≤ fl.length) : i ≤ stepL fl i ∧ stepL fl i ≤ fl.length := by
  unfold stepL
  cases q : jmp fl i with
  | none => exact ⟨Int.le_refl _, h⟩
  | some t => exact ⟨Int.le_of_lt (jmp_ok hf h0 q).1, (jmp_ok hf h0 q).2⟩
theorem landN_ok {fl : List Stp} (hf : FlowOk fl) : ∀ (n : Nat) {i : Int}, 0 ≤ i → i ≤ fl.length → i ≤ landN fl n i ∧ landN fl n i ≤ fl.length
  | 0, i, _, h => ⟨Int.le_refl _, h⟩
  | n + 1, i, h0, h => by
    obtain ⟨a, b⟩ := stepL_ok hf h0 h
    obtain ⟨c, d⟩ := landN_ok hf n (Int.le_trans h0 a) b
    exact ⟨Int.le_trans a c, d⟩
theorem landP_ok {fl : List Stp} (hf : FlowOk fl) {i : Int} (h0 : 0 ≤ i) (h : i ≤ fl.length) : i ≤ landP fl i ∧ landP fl i ≤ fl.length := landN_ok hf _ h0 h
theorem jmp_none {fl : List Stp} {i : Int} (h : ¬ i < fl.length) : jmp fl i = none := by
  unfold jmp
  rw [List.getElem?_eq_none (by omega)]
theorem test_jmp {fl : List Stp} {i : Int} (h0 : 0 ≤ i) : ((if (decide (i < (fl.length : Int))) = true then (atC fl i).bind fun t2 => some (decide (t2.word = ("jump" : Str))) else some false) : Option Bool) = some (jmp fl i).isSome := by
  by_cases h : i < (fl.length : Int)
  · rw [if_pos (decide_eq_true h)]
    obtain ⟨x, e, _, e2⟩ := atC_get h0 h
    refine eq_of (t_eq e (tot_some ?_))
    unfold jmp
    rw [e2]
    cases x with
    | w_move a => exact w_move_jump
    | w_hold a => exact w_hold_jump
    | w_set a b => exact w_set_jump
    | w_wait a b => exact w_wait_jump
    | w_jump a => exact w_jump_jump
    | w_if a b => exact w_if_jump
  · rw [if_neg (by rw [decide_eq_true_eq]; exact h), jmp_none h]
    rfl
theorem jmp_at {fl : List Stp} {i t : Int} (h0 : 0 ≤ i) (h : jmp fl i = some t) : atC fl i = some (.w_jump t) := by
  have hi : i < fl.length := by
    by_cases c : i < fl.length
    · exact c
    · rw [jmp_none c] at h
      cases h
  obtain ⟨x, e, _, e2⟩ := atC_get h0 hi
  rw [e]
  unfold jmp at h
  rw [e2] at h
  cases x <;> first | (cases h; done) | skip
  cases h
  rfl
theorem law_landing_eq {fl : List Stp} (hf : FlowOk fl) {i : Int} (h0 : 0 ≤ i) (h : i ≤ fl.length) (hl : fl.length ≤ 1000) : m__law_landing fl i = some (landP fl i) := by
  unfold m__law_landing
  refine eq_of (tot_rng (by omega) (t_bind (tot_forLi (W := fun j (s : Int) => s = landN fl j i) rfl fun j x s hx hs => ?_) fun s hs => tot_some ?_))
  · subst hs
    have hj := landN_ok hf j h0 h
    refine t_eq (test_jmp (by omega)) ?_
    have e1 : landN fl (j + 1) i = stepL fl (landN fl j i) := landN_add fl j 1 i
    rw [e1]
    generalize landN fl j i = z at *
    unfold stepL
    cases q : jmp fl z with
    | none => exact t_bind (t_no rfl (tot_some (P := fun w => w = z) rfl)) fun w hw => tot_some hw
    | some t => exact t_bind (t_yes rfl (t_eq (jmp_at (by omega) q) (t_eq (x := t) rfl (tot_some (P := fun w => w = t) rfl)))) fun w hw => tot_some hw
  · rw [hs, rng_len]
    show landN fl ((fl.length : Int) + 1 - 0).toNat i = landN fl (fl.length + 1) i
    rw [show ((fl.length : Int) + 1 - 0).toNat = fl.length + 1 by omega]
theorem land_while {fl : List Stp} (hf : FlowOk fl) {c : Int → Option Bool} {f : Int → Option (Fl Int Int)} (hc : ∀ s, 0 ≤ s → c s = some (jmp fl s).isSome) (hg : ∀ s t, 0 ≤ s → jmp fl s = some t → f s = some (.nx t)) : ∀ (m n : Nat) (s : Int), (fl.length - s).toNat ≤ m → m < n → 0 ≤ s → s ≤ fl.length → whileF n s c f = some (.nx (landN fl (m + 1) s)) := by
  intro m
  induction m with
  | zero =>
    intro n s hm hn h0 h
    cases n with
    | zero => omega
    | succ n =>
      have e := hc s h0
      have q : jmp fl s = none := jmp_none (by omega)
      unfold whileF
      rw [e, q, landN_fix q]
      rfl
  | succ m ih =>
    intro n s hm hn h0 h
    cases n with
    | zero => omega
    | succ n =>
      have e := hc s h0
      unfold whileF
      rw [e]
      cases q : jmp fl s with
      | none =>
        rw [landN_fix q]
        rfl
      | some t =>
        obtain ⟨a, b⟩ := jmp_ok hf h0 q
        show (f s).bind (Fl.step fun s' => whileF n s' c f) = _
        rw [hg s t h0 q]
        show whileF n t c f = _
        rw [ih n t (by omega) (by omega) (by omega) b]
        show _ = some (Fl.nx (landN fl (m + 1) (stepL fl s)))
        unfold stepL
        rw [q]
        rfl
/-- a state of these flows -/
structure StaOk (fls : List (List Stp)) (st : Sta) : Prop where
  l : st.1.length = fls.length
  a : ∀ k : Int, 0 ≤ k → k < fls.length → 0 ≤ (spA st k).1 ∧ (spA st k).1 ≤ (flA fls k).length
  p : ∀ k : Int, 0 ≤ k → k < fls.length → PtOk (spA st k).2.1 ∧ HeOk (spA st k).2.2
  s : st.2.Nodup
  t : ∀ s ∈ st.2, SgOk s
structure FlsOk (fls : List (List Stp)) : Prop where
  n1 : 1 ≤ fls.length
  n4 : fls.length ≤ 4
  ok : ∀ fl ∈ fls, FlowOk fl
  sz : ∀ fl ∈ fls, fl.length ≤ 10
theorem PlanOk.fls {fls : List (List Stp)} {sts : List Str} {bl : List Blk} (h : PlanOk fls sts bl) : FlsOk fls := ⟨h.n1, h.n4, h.ok, fun fl m => by
  have a := h.sz fl m
  have b := h.n1
  have := Nat.le_mul_of_pos_right fl.length b
  omega⟩
section
variable {fls : List (List Stp)} {st : Sta} {k : Int}
theorem FlsOk.f (h : FlsOk fls) (h0 : 0 ≤ k) (hk : k < fls.length) : FlowOk (flA fls k) := h.ok _ (flA_mem h0 hk)
theorem FlsOk.z (h : FlsOk fls) (h0 : 0 ≤ k) (hk : k < fls.length) : (flA fls k).length ≤ 10 := h.sz _ (flA_mem h0 hk)
theorem StaOk.at (h : StaOk fls st) (h0 : 0 ≤ k) (hk : k < fls.length) : atC st.1 k = some (spA st k) := at_getD _ h0 (by rw [h.l]; exact hk)
theorem StaOk.get (h : StaOk fls st) (h0 : 0 ≤ k) (hk : k < fls.length) : st.1[k.toNat]? = some (spA st k) := by
  have := h.at h0 hk
  obtain ⟨x, e, _, e2⟩ := atC_get h0 (xs := st.1) (by rw [h.l]; exact hk)
  rw [this] at e
  cases e
  exact e2
theorem sgs_len {s : List Str} (hd : s.Nodup) (h : ∀ x ∈ s, SgOk x) : s.length ≤ 2 := by
  match s, hd, h with
  | [], _, _ => exact Nat.zero_le _
  | [a], _, _ => exact Nat.le_succ _
  | [a, b], _, _ => exact Nat.le_refl _
  | a :: b :: c :: r, hd, h =>
    exfalso
    have ha := h a (by simp)
    have hb := h b (by simp)
    have hc := h c (by simp)
    have h1 := (List.nodup_cons.mp hd).1
    have h2 := (List.nodup_cons.mp (List.nodup_cons.mp hd).2).1
    have ab : a ≠ b := fun e => h1 (by rw [e]; simp)
    have ac : a ≠ c := fun e => h1 (by rw [e]; simp)
    have bc : b ≠ c := fun e => h2 (by rw [e]; simp)
    rcases ha with rfl | rfl <;> rcases hb with rfl | rfl <;> rcases hc with rfl | rfl <;> first | exact ab rfl | exact ac rfl | exact bc rfl
theorem StaOk.sl (h : StaOk fls st) : st.2.length ≤ 2 := sgs_len h.s h.t
theorem at_get2 {fl : List Stp} {i : Int} (h0 : 0 ≤ i) (h : i < fl.length) : ∃ x, atC fl i = some x ∧ fl[i.toNat]? = some x := by
  obtain ⟨x, e, _, e2⟩ := atC_get h0 h
  exact ⟨x, e, e2⟩
theorem atP_none (h : ¬ (spA st k).1 < (flA fls k).length) : atP fls st k = none := by
  unfold atP
  exact List.getElem?_eq_none (by omega)
theorem atP_some (h0 : 0 ≤ (spA st k).1) (h : (spA st k).1 < (flA fls k).length) : ∃ x, atC (flA fls k) (spA st k).1 = some x ∧ atP fls st k = some x := at_get2 h0 h
theorem atP_ok (hf : FlsOk fls) (hs : StaOk fls st) (h0 : 0 ≤ k) (hk : k < fls.length) {x : Stp} (h : atP fls st k = some x) : StpOk (flA fls k).length (spA st k).1 x := by
  have := hf.f h0 hk (spA st k).1.toNat x h
  rwa [show (((spA st k).1.toNat : Nat) : Int) = (spA st k).1 by have := (hs.a k h0 hk).1; omega] at this
theorem law_at_eq (hs : StaOk fls st) (h0 : 0 ≤ k) (hk : k < fls.length) : m__law_at fls st k = some (atP fls st k) := by
  unfold m__law_at
  refine eq_of (t_eq (hs.at h0 hk) (t_lt (t_eq (atF h0 hk) (tot_ite (fun c => t_eq (atF h0 hk) ?_) fun c => ?_))))
  · obtain ⟨x, e1, e2⟩ := atP_some (hs.a k h0 hk).1 (of_decide_eq_true c)
    exact t_eq e1 (tot_some e2.symm)
  · exact tot_some (atP_none (of_decide_eq_false c)).symm
end
def stP (fls : List (List Stp)) (sts : List Str) : Sta := ((rng 0 fls.length).map fun k => (landP (flA fls k) 0, sts[k.toNat]?.getD ("" : Str), none), [])
theorem law_start_eq {fls : List (List Stp)} {sts : List Str} (hf : FlsOk fls) (hl : sts.length = fls.length) : m__law_start fls sts = some (stP fls sts) := by
  unfold m__law_start
  have := hf.n4
  refine eq_of (tot_rng (by omega) (t_eq (mapC_all (g := fun k => (landP (flA fls k) 0, sts[k.toNat]?.getD ("" : Str), none)) (by rw [rng_len]; omega) fun k m => ?_) (tot_some rfl)))
  obtain ⟨h0, hk⟩ := mem_rng.mp m
  have := hf.z h0 hk
  exact eq_of (t_eq (atF h0 hk) (t_eq (law_landing_eq (hf.f h0 hk) (Int.le_refl _) (by omega) (by omega)) (t_eq (at_getD ("" : Str) h0 (by omega)) (tot_some rfl))))
theorem rng_at {n : Nat} {k : Int} (h0 : 0 ≤ k) (hk : k < n) : (rng 0 (n : Int))[k.toNat]? = some k := by
  unfold rng
  rw [List.getElem?_map, List.getElem?_range (by omega)]
  show some (0 + ((k.toNat : Nat) : Int)) = some k
  congr 1
  omega
theorem stP_ok {fls : List (List Stp)} {sts : List Str} (hf : FlsOk fls) (hl : sts.length = fls.length) (hp : ∀ s ∈ sts, PtOk s) : StaOk fls (stP fls sts) := by
  have e : ∀ k : Int, 0 ≤ k → k < fls.length → spA (stP fls sts) k = (landP (flA fls k) 0, sts[k.toNat]?.getD ("" : Str), none) := fun k h0 hk => by
    unfold spA stP
    dsimp only
    rw [List.getElem?_map, rng_at h0 hk]
    rfl
  refine ⟨by show (List.map _ _).length = _; rw [List.length_map, rng_len]; omega, fun k h0 hk => ?_, fun k h0 hk => ?_, List.nodup_nil, fun s m => by cases m⟩
  · rw [e k h0 hk]
    have := landP_ok (hf.f h0 hk) (i := 0) (Int.le_refl _) (by omega)
    exact ⟨this.1, this.2⟩
  · rw [e k h0 hk]
    obtain ⟨x, _, m, e2⟩ := atC_get (xs := sts) h0 (by omega)
    refine ⟨?_, .inl rfl⟩
    show PtOk (sts[k.toNat]?.getD _)
    rw [e2]
    exact hp x m

/-! the dict of blocked pairs -/
def kH : Option Str → NestedKey
  | none => .none
  | some s => .text s
def kP : Plc → NestedKey
  | .w_rest p h => .tup [.text ("rest" : Str), .text p, kH h]
  | .w_move p q h => .tup [.text ("move" : Str), .text p, .text q, kH h]
def kB (a : Int) (p : Plc) (o : Int) (q : Plc) : NestedKey := .tup [.num a, kP p, .num o, kP q]
theorem keyD_H (h : Option Str) : keyD ((dO Dt.str) h) = some (kH h) := by cases h <;> rfl
theorem keyD_P (p : Plc) : keyD (d_Plc p) = some (kP p) := by
  cases p with
  | w_rest p h =>
    show (keyDs [.str ("rest" : Str), Dt.str p, (dO Dt.str) h]).map NestedKey.tup = _
    cases h <;> rfl
  | w_move p q h =>
    show (keyDs [.str ("move" : Str), Dt.str p, Dt.str q, (dO Dt.str) h]).map NestedKey.tup = _
    cases h <;> rfl
theorem kH_dep (h : Option Str) : (kH h).depth = 0 := by cases h <;> simp [kH, NestedKey.depth]
theorem kP_dep (p : Plc) : (kP p).depth ≤ 1 := by
  cases p <;> simp [kP, NestedKey.depth, NestedKey.depthAll, kH_dep]
theorem kB_dep (a : Int) (p : Plc) (o : Int) (q : Plc) : (kB a p o q).depth ≤ 8 := by
  have := kP_dep p
  have := kP_dep q
  simp only [kB, NestedKey.depth, NestedKey.depthAll]
  omega
def dB (a : Int) (p : Plc) (o : Int) (q : Plc) : Dt := .tup [.int a, d_Plc p, .int o, d_Plc q]
theorem keyD_B (a : Int) (p : Plc) (o : Int) (q : Plc) : keyD (dB a p o q) = some (kB a p o q) := by
  show (keyDs [.int a, d_Plc p, .int o, d_Plc q]).map NestedKey.tup = _
  have : keyDs [.int a, d_Plc p, .int o, d_Plc q] = (keyD (.int a)).bind fun k => ((keyD (d_Plc p)).bind fun k => ((keyD (.int o)).bind fun k => ((keyD (d_Plc q)).bind fun k => (some []).map fun ks => k :: ks).map fun ks => k :: ks).map fun ks => k :: ks).map fun ks => k :: ks := rfl
  rw [this, keyD_P, keyD_P]
  rfl
theorem nkC_B (a : Int) (p : Plc) (o : Int) (q : Plc) : nkC (.tup [.int a, d_Plc p, .int o, d_Plc q]) = some (kB a p o q) := by
  unfold nkC
  rw [show keyD (.tup [.int a, d_Plc p, .int o, d_Plc q]) = some (kB a p o q) from keyD_B a p o q]
  exact if_pos (kB_dep a p o q)
theorem kH_inj {a b : Option Str} (h : kH a = kH b) : a = b := by
  cases a <;> cases b <;> first | rfl | (cases h; done) | (cases h; rfl)
theorem kP_inj {p q : Plc} (h : kP p = kP q) : p = q := by
  cases p <;> cases q
  · injection h with h; injection h with _ h; injection h with h1 h; injection h with h2 _; injection h1 with h1
    rw [h1, kH_inj h2]
  · injection h with h; injection h with h _; injection h with h
    exact absurd h (by decide)
  · injection h with h; injection h with h _; injection h with h
    exact absurd h (by decide)
  · injection h with h; injection h with _ h; injection h with h1 h; injection h with h2 h; injection h with h3 _; injection h1 with h1; injection h2 with h2
    rw [h1, h2, kH_inj h3]
theorem kB_inj {a o a' o' : Int} {p q p' q' : Plc} (h : kB a p o q = kB a' p' o' q') : (a, p, o, q) = (a', p', o', q') := by
  injection h with h; injection h with h1 h; injection h with h2 h; injection h with h3 h; injection h with h4 _; injection h1 with h1; injection h3 with h3
  rw [h1, h3, kP_inj h2, kP_inj h4]
theorem hasD_put {s : List (Dt × Dt)} {k j : NestedKey} {kd d : Dt} (hk : keyD kd = some k) : hasD (putK2 s k kd d) j = (hasD s j || decide (k = j)) := by
  unfold putK2
  by_cases h : hasD s k = true
  · rw [if_pos h]
    have e : hasD (s.map fun p => if keyD p.1 = some k then (p.1, d) else p) j = hasD s j := by
      unfold hasD
      rw [List.any_map]
      congr 1
      funext p
      show decide (keyD (if keyD p.1 = some k then (p.1, d) else p).1 = some j) = _
      by_cases c : keyD p.1 = some k
      · rw [if_pos c]
      · rw [if_neg c]
    rw [e]
    by_cases c : k = j
    · subst c
      rw [h]
      rfl
    · rw [decide_eq_false c, Bool.or_false]
  · rw [if_neg h]
    unfold hasD
    rw [List.any_append, List.any_cons, List.any_nil, Bool.or_false]
    dsimp only
    rw [hk]
    congr 1
    by_cases c : k = j
    · rw [decide_eq_true c, decide_eq_true (congrArg some c)]
    · rw [decide_eq_false c, decide_eq_false fun z => c (Option.some.inj z)]
def blkP (bl : List Blk) (a : Int) (p : Plc) (o : Int) (q : Plc) : Bool := (bl.any fun x => decide (x = (a, p, o, q))) || bl.any fun x => decide (x = (o, q, a, p))
theorem kB_dec (x : Blk) (a : Int) (p : Plc) (o : Int) (q : Plc) : decide (kB x.1 x.2.1 x.2.2.1 x.2.2.2 = kB a p o q) = decide (x = (a, p, o, q)) := by
  by_cases c : x = (a, p, o, q)
  · subst c
    rw [decide_eq_true rfl, decide_eq_true rfl]
  · rw [decide_eq_false c, decide_eq_false fun z => c (kB_inj z)]
theorem kB_dec2 (x : Blk) (a : Int) (p : Plc) (o : Int) (q : Plc) : decide (kB x.2.2.1 x.2.2.2 x.1 x.2.1 = kB a p o q) = decide (x = (o, q, a, p)) := by
  rw [← kB_dec x o q a p]
  by_cases c : kB x.2.2.1 x.2.2.2 x.1 x.2.1 = kB a p o q
  · have := kB_inj c
    rw [decide_eq_true c, decide_eq_true (by injection this with h1 h; injection h with h2 h; injection h with h3 h4; rw [h1, h2, h3, h4])]
  · rw [decide_eq_false c, decide_eq_false fun z => c (by have := kB_inj z; injection this with h1 h; injection h with h2 h; injection h with h3 h4; rw [h1, h2, h3, h4])]
theorem blocks_loop {f : Blk → List (Dt × Dt) → Option (List (Dt × Dt))} (hf : ∀ x s, f x s = some (putK2 (putK2 s (kB x.1 x.2.1 x.2.2.1 x.2.2.2) (dB x.1 x.2.1 x.2.2.1 x.2.2.2) (.bl true)) (kB x.2.2.1 x.2.2.2 x.1 x.2.1) (dB x.2.2.1 x.2.2.2 x.1 x.2.1) (.bl true))) : ∀ (xs : List Blk) (s : List (Dt × Dt)), ∃ s', forL xs s f = some s' ∧ ∀ a p o q, hasD s' (kB a p o q) = (hasD s (kB a p o q) || blkP xs a p o q)
  | [], s => ⟨s, rfl, fun a p o q => by show _ = (_ || (false || false)); rw [Bool.or_self, Bool.or_false]⟩
  | x :: xs, s => by
    obtain ⟨s', e, h⟩ := blocks_loop hf xs (putK2 (putK2 s (kB x.1 x.2.1 x.2.2.1 x.2.2.2) (dB x.1 x.2.1 x.2.2.1 x.2.2.2) (.bl true)) (kB x.2.2.1 x.2.2.2 x.1 x.2.1) (dB x.2.2.1 x.2.2.2 x.1 x.2.1) (.bl true))
    refine ⟨s', ?_, fun a p o q => ?_⟩
    · show (f x s).bind _ = _
      rw [hf]
      exact e
    · rw [h, hasD_put (keyD_B ..), hasD_put (keyD_B ..), kB_dec, kB_dec2]
      unfold blkP
      rw [List.any_cons, List.any_cons]
      generalize hasD s (kB a p o q) = u1
      generalize decide (x = (a, p, o, q)) = u2
      generalize decide (x = (o, q, a, p)) = u3
      generalize (xs.any fun x => decide (x = (a, p, o, q))) = u4
      generalize (xs.any fun x => decide (x = (o, q, a, p))) = u5
      cases u1 <;> cases u2 <;> cases u3 <;> cases u4 <;> cases u5 <;> rfl
structure PlOk (pl : Plan) (fls : List (List Stp)) (sts : List Str) (bl : List Blk) : Prop where
  f : pl.flows = fls
  s : pl.starts = sts
  b : ∀ a p o q, hasD pl.blocks (kB a p o q) = blkP bl a p o q
theorem plan_init_ok {fls : List (List Stp)} {sts : List Str} {bl : List Blk} (hf : fls.length ≤ 1000000) (hb : bl.length ≤ 5000000) : Tot (m_Plan_init fls sts bl) fun pl => PlOk pl fls sts bl := by
  unfold m_Plan_init
  refine t_eq (mapP_eq hf) (t_eq (x := ()) (if_pos hb) ?_)
  obtain ⟨s, e, h⟩ := blocks_loop (f := fun (x3 : (Int × Plc × Int × Plc)) (s4 : List (Dt × Dt)) => (nkC (.tup [.int x3.1, d_Plc x3.2.1, .int x3.2.2.1, d_Plc x3.2.2.2])).bind fun k1 => (nkC (.tup [.int x3.2.2.1, d_Plc x3.2.2.2, .int x3.1, d_Plc x3.2.1])).bind fun k2 => some (putK2 (putK2 s4 k1 (.tup [.int x3.1, d_Plc x3.2.1, .int x3.2.2.1, d_Plc x3.2.2.2]) (.bl true)) k2 (.tup [.int x3.2.2.1, d_Plc x3.2.2.2, .int x3.1, d_Plc x3.2.1]) (.bl true))) (fun x s => by
    show (nkC _).bind _ = _
    rw [nkC_B, nkC_B]
    rfl) bl []
  refine t_eq e (tot_some ⟨?_, rfl, fun a p o q => ?_⟩)
  · show fls.map (fun x => x) = fls
    exact List.map_id' fls
  · show hasD s _ = _
    rw [h]
    rfl

/-! the questions about a state -/
def wantP (fls : List (List Stp)) (st : Sta) (k : Int) : Option Plc := match atP fls st k with
  | some (.w_move p) => some (.w_move (spA st k).2.1 p (spA st k).2.2)
  | some (.w_hold h) => some (.w_rest (spA st k).2.1 h)
  | _ => none
def rstP (st : Sta) (k : Int) : Plc := .w_rest (spA st k).2.1 (spA st k).2.2
def hinP (fls : List (List Stp)) (bl : List Blk) (st : Sta) (k : Int) : Option Int := match wantP fls st k with
  | none => none
  | some p => (rng 0 fls.length).find? fun o => !(decide (o = k)) && blkP bl k p o (rstP st o)
def canP (fls : List (List Stp)) (bl : List Blk) (st : Sta) (k : Int) : Bool := match atP fls st k with
  | none => false
  | some (.w_wait n b) => decide ((decide (n ∈ st.2)) = b)
  | some _ => (hinP fls bl st k).isNone
def swP (sg : List Str) (nm : Str) (on : Bool) : List Str := if on = true then (if nm ∈ sg then sg else sg ++ [nm]) else sg.filter fun x => !(decide (x = nm))
def movP (fls : List (List Stp)) (st : Sta) (k at_ : Int) (p : Str) (h : Option Str) (sg : List Str) : Sta := (st.1.set k.toNat (landP (flA fls k) at_, p, h), sg)
def outP (fls : List (List Stp)) (st : Sta) (k : Int) : List Sta := match atP fls st k with
  | none => []
  | some (.w_move p) => [movP fls st k ((spA st k).1 + 1) p (spA st k).2.2 st.2]
  | some (.w_hold h) => [movP fls st k ((spA st k).1 + 1) (spA st k).2.1 h st.2]
  | some (.w_set n b) => [movP fls st k ((spA st k).1 + 1) (spA st k).2.1 (spA st k).2.2 (swP st.2 n b)]
  | some (.w_wait _ _) => [movP fls st k ((spA st k).1 + 1) (spA st k).2.1 (spA st k).2.2 st.2]
  | some (.w_jump _) => [movP fls st k ((spA st k).1 + 1) (spA st k).2.1 (spA st k).2.2 st.2]
  | some (.w_if _ t) => [movP fls st k ((spA st k).1 + 1) (spA st k).2.1 (spA st k).2.2 st.2, movP fls st k t (spA st k).2.1 (spA st k).2.2 st.2]
def endP (fls : List (List Stp)) (st : Sta) : Bool := ((rng 0 fls.length).find? fun k => (atP fls st k).isSome).isNone
section
variable {pl : Plan} {fls : List (List Stp)} {sts : List Str} {bl : List Blk} {st : Sta} {k : Int}
theorem step_of_eq (hp : PlOk pl fls sts bl) (hs : StaOk fls st) (h0 : 0 ≤ k) (hk : k < fls.length) : m_Plan_step_of pl st k = some (atP fls st k) := by
  unfold m_Plan_step_of
  rw [hp.f]
  refine eq_of (t_eq (hs.at h0 hk) (t_lt (t_eq (atF h0 hk) (t_bind (P := fun x => x = atP fls st k) (tot_ite (fun c => t_eq (atF h0 hk) ?_) fun c => ?_) fun x hx => tot_some hx))))
  · obtain ⟨x, e1, e2⟩ := atP_some (hs.a k h0 hk).1 (of_decide_eq_true c)
    exact t_eq e1 (tot_some e2.symm)
  · exact tot_some (atP_none (of_decide_eq_false c)).symm
theorem atP_isNone (hs : StaOk fls st) (h0 : 0 ≤ k) (hk : k < fls.length) : (atP fls st k).isNone = decide (((flA fls k).length : Int) ≤ (spA st k).1) := by
  by_cases c : (spA st k).1 < (flA fls k).length
  · obtain ⟨x, _, e2⟩ := atP_some (hs.a k h0 hk).1 c
    rw [e2, decide_eq_false (by omega)]
    rfl
  · rw [atP_none c, decide_eq_true (by omega)]
    rfl
theorem rest_of_eq (hs : StaOk fls st) (h0 : 0 ≤ k) (hk : k < fls.length) : m_Plan_rest_of pl st k = some (rstP st k) := by
  unfold m_Plan_rest_of
  exact eq_of (t_eq (hs.at h0 hk) (tot_some rfl))
theorem wanted_eq (hp : PlOk pl fls sts bl) (hs : StaOk fls st) (h0 : 0 ≤ k) (hk : k < fls.length) : m_Plan_wanted pl st k = some (wantP fls st k) := by
  unfold m_Plan_wanted wantP
  refine eq_of (t_eq (step_of_eq hp hs h0 hk) (t_eq (hs.at h0 hk) ?_))
  cases atP fls st k with
  | none => exact t_yes rfl (tot_some rfl)
  | some x =>
    cases x with
    | w_move p => exact t_no rfl (t_eq (x := Stp.w_move p) rfl (t_yes w_move_move (t_eq (x := Stp.w_move p) rfl (t_eq (x := p) rfl (tot_some rfl)))))
    | w_hold h => exact t_no rfl (t_eq (x := Stp.w_hold h) rfl (t_no w_hold_move (t_eq (x := Stp.w_hold h) rfl (t_bind (P := fun z => z = some (Plc.w_rest (spA st k).2.1 h)) (t_yes w_hold_hold (t_eq (x := Stp.w_hold h) rfl (t_eq (x := h) rfl (tot_some rfl)))) fun z hz => tot_some hz))))
    | w_set a b => exact t_no rfl (t_eq (x := Stp.w_set a b) rfl (t_no w_set_move (t_eq (x := Stp.w_set a b) rfl (t_bind (P := fun z => z = none) (t_no w_set_hold (tot_some rfl)) fun z hz => tot_some hz))))
    | w_wait a b => exact t_no rfl (t_eq (x := Stp.w_wait a b) rfl (t_no w_wait_move (t_eq (x := Stp.w_wait a b) rfl (t_bind (P := fun z => z = none) (t_no w_wait_hold (tot_some rfl)) fun z hz => tot_some hz))))
    | w_jump a => exact t_no rfl (t_eq (x := Stp.w_jump a) rfl (t_no w_jump_move (t_eq (x := Stp.w_jump a) rfl (t_bind (P := fun z => z = none) (t_no w_jump_hold (tot_some rfl)) fun z hz => tot_some hz))))
    | w_if a b => exact t_no rfl (t_eq (x := Stp.w_if a b) rfl (t_no w_if_move (t_eq (x := Stp.w_if a b) rfl (t_bind (P := fun z => z = none) (t_no w_if_hold (tot_some rfl)) fun z hz => tot_some hz))))
theorem law_wanted_eq (hs : StaOk fls st) (h0 : 0 ≤ k) (hk : k < fls.length) : m__law_wanted fls st k = some (wantP fls st k) := by
  unfold m__law_wanted wantP
  refine eq_of (t_eq (law_at_eq hs h0 hk) ?_)
  cases atP fls st k with
  | none => exact t_yes rfl (tot_some rfl)
  | some x =>
    cases x with
    | w_move p => exact t_no rfl (t_eq (x := Stp.w_move p) rfl (t_yes w_move_move (t_eq (hs.at h0 hk) (t_eq (x := Stp.w_move p) rfl (t_eq (x := p) rfl (t_eq (hs.at h0 hk) (tot_some rfl)))))))
    | w_hold h => exact t_no rfl (t_eq (x := Stp.w_hold h) rfl (t_no w_hold_move (t_eq (x := Stp.w_hold h) rfl (t_yes w_hold_hold (t_eq (hs.at h0 hk) (t_eq (x := Stp.w_hold h) rfl (t_eq (x := h) rfl (tot_some rfl))))))))
    | w_set a b => exact t_no rfl (t_eq (x := Stp.w_set a b) rfl (t_no w_set_move (t_eq (x := Stp.w_set a b) rfl (t_no w_set_hold (tot_some rfl)))))
    | w_wait a b => exact t_no rfl (t_eq (x := Stp.w_wait a b) rfl (t_no w_wait_move (t_eq (x := Stp.w_wait a b) rfl (t_no w_wait_hold (tot_some rfl)))))
    | w_jump a => exact t_no rfl (t_eq (x := Stp.w_jump a) rfl (t_no w_jump_move (t_eq (x := Stp.w_jump a) rfl (t_no w_jump_hold (tot_some rfl)))))
    | w_if a b => exact t_no rfl (t_eq (x := Stp.w_if a b) rfl (t_no w_if_move (t_eq (x := Stp.w_if a b) rfl (t_no w_if_hold (tot_some rfl)))))
theorem is_clear_eq (hp : PlOk pl fls sts bl) (a : Int) (p : Plc) (o : Int) (q : Plc) : m_Plan_is_clear pl a p o q = some (!blkP bl a p o q) := by
  unfold m_Plan_is_clear
  refine eq_of (t_eq (nkC_B a p o q) (tot_some ?_))
  rw [hp.b]
theorem sh_pt {p : Str} (h : PtOk p) : shD 0 (Dt.str p) = true := by
  unfold shD
  rcases h with rfl | rfl <;> exact lay_w (by decide)
theorem sh_he {h : Option Str} (k : HeOk h) : shD 0 ((dO Dt.str) h) = true := by
  rcases k with rfl | rfl
  · unfold shD; rfl
  · show shD 0 (Dt.str _) = true
    unfold shD
    exact lay_w (by decide)
theorem sh_sg {p : Str} (h : SgOk p) : shD 0 (Dt.str p) = true := by
  unfold shD
  rcases h with rfl | rfl <;> exact lay_w (by decide)
theorem sh_w {w : Str} (h : PyData.canLay0 (.str w) = true) : shD 0 (Dt.str w) = true := by
  unfold shD
  exact h
theorem sh_int (n : Nat) (i : Int) : shD n (Dt.int i) = true := by
  cases n <;> (unfold shD; rfl)
theorem sh_bl (n : Nat) (i : Bool) : shD n (Dt.bl i) = true := by
  cases n <;> (unfold shD; rfl)
theorem sh_plc {p : Plc} (h : PlcOk p) : shD 1 (d_Plc p) = true := by
  cases p with
  | w_rest p q =>
    refine shD_tup (n := 0) fun x m => ?_
    simp only [List.mem_cons, List.not_mem_nil, or_false] at m
    rcases m with rfl | rfl | rfl
    · exact sh_w (lay_w (by decide))
    · exact sh_pt h.1
    · exact sh_he h.2
  | w_move p r q =>
    refine shD_tup (n := 0) fun x m => ?_
    simp only [List.mem_cons, List.not_mem_nil, or_false] at m
    rcases m with rfl | rfl | rfl | rfl
    · exact sh_w (lay_w (by decide))
    · exact sh_pt h.1
    · exact sh_pt h.2.1
    · exact sh_he h.2.2
theorem eqv_he (a b : Option Str) : PyData.eqv (pd ((dO Dt.str) a)) (pd ((dO Dt.str) b)) = decide (a = b) := by
  rw [Bool.eq_iff_iff, decide_eq_true_eq]
  cases a <;> cases b <;> simp [dO, pd, PyData.eqv]
theorem wstr_ne : (Str.ofString "rest" == Str.ofString "move") = false := by decide
theorem wstr_ne2 : (Str.ofString "move" == Str.ofString "rest") = false := by decide
theorem eqv_plc (p q : Plc) : PyData.eqv (pd (d_Plc p)) (pd (d_Plc q)) = decide (p = q) := by
  cases p with
  | w_rest a b =>
    cases q with
    | w_rest c d =>
      show (PyData.eqv (.str ("rest" : Str)) (.str ("rest" : Str)) && (PyData.eqv (.str a) (.str c) && (PyData.eqv (pd ((dO Dt.str) b)) (pd ((dO Dt.str) d)) && true))) = _
      rw [eqv_he, Bool.eq_iff_iff, decide_eq_true_eq]
      simp [PyData.eqv]
    | w_move c e d =>
      rw [decide_eq_false (by intro z; cases z)]
      show (PyData.eqv (.str ("rest" : Str)) (.str ("move" : Str)) && (PyData.eqv (.str a) (.str c) && (PyData.eqv (pd ((dO Dt.str) b)) (.str e) && PyData.eqvAll [] [pd ((dO Dt.str) d)]))) = false
      rw [show PyData.eqv (.str ("rest" : Str)) (.str ("move" : Str)) = false by simp [PyData.eqv]; decide]
      rfl
  | w_move a f b =>
    cases q with
    | w_rest c d =>
      rw [decide_eq_false (by intro z; cases z)]
      show (PyData.eqv (.str ("move" : Str)) (.str ("rest" : Str)) && (PyData.eqv (.str a) (.str c) && (PyData.eqv (.str f) (pd ((dO Dt.str) d)) && PyData.eqvAll [pd ((dO Dt.str) b)] []))) = false
      rw [show PyData.eqv (.str ("move" : Str)) (.str ("rest" : Str)) = false by simp [PyData.eqv]; decide]
      rfl
    | w_move c g d =>
      show (PyData.eqv (.str ("move" : Str)) (.str ("move" : Str)) && (PyData.eqv (.str a) (.str c) && (PyData.eqv (.str f) (.str g) && (PyData.eqv (pd ((dO Dt.str) b)) (pd ((dO Dt.str) d)) && true)))) = _
      rw [eqv_he, Bool.eq_iff_iff, decide_eq_true_eq]
      simp [PyData.eqv]
theorem eqD_blk (x y : Blk) : eqD ((dT4 Dt.int d_Plc Dt.int d_Plc) x) ((dT4 Dt.int d_Plc Dt.int d_Plc) y) = decide (x = y) := by
  obtain ⟨a, p, o, q⟩ := x
  obtain ⟨a', p', o', q'⟩ := y
  show (PyData.eqv (.int a) (.int a') && (PyData.eqv (pd (d_Plc p)) (pd (d_Plc p')) && (PyData.eqv (.int o) (.int o') && (PyData.eqv (pd (d_Plc q)) (pd (d_Plc q')) && true)))) = _
  rw [eqv_plc, eqv_plc, Bool.eq_iff_iff, decide_eq_true_eq]
  simp [PyData.eqv]
theorem sh_blk {x : Blk} (h1 : PlcOk x.2.1) (h2 : PlcOk x.2.2.2) : shD 2 ((dT4 Dt.int d_Plc Dt.int d_Plc) x) = true := by
  refine shD_tup (n := 1) fun z m => ?_
  simp only [List.mem_cons, List.not_mem_nil, or_false] at m
  rcases m with rfl | rfl | rfl | rfl
  · exact sh_int ..
  · exact sh_plc h1
  · exact sh_int ..
  · exact sh_plc h2
theorem in_blk {x : Blk} (h1 : PlcOk x.2.1) (h2 : PlcOk x.2.2.2) (hb : ∀ x ∈ bl, PlcOk x.2.1 ∧ PlcOk x.2.2.2) : inDC ((dT4 Dt.int d_Plc Dt.int d_Plc) x) (List.map (dT4 Dt.int d_Plc Dt.int d_Plc) bl) = some (bl.any fun y => decide (y = x)) := by
  unfold inDC
  rw [shD_le (sh_blk h1 h2) (by decide), shD_le (shD_lst (n := 2) fun z m => by
    obtain ⟨y, hy, rfl⟩ := List.mem_map.mp m
    exact sh_blk (hb y hy).1 (hb y hy).2) (by decide)]
  refine (if_pos rfl).trans (congrArg some ?_)
  unfold inD
  rw [List.any_map]
  congr 1
  funext y
  exact eqD_blk y x
theorem law_clear_eq (hb : ∀ x ∈ bl, PlcOk x.2.1 ∧ PlcOk x.2.2.2) {a o : Int} {p q : Plc} (hp : PlcOk p) (hq : PlcOk q) : m__law_clear bl a p o q = some (!blkP bl a p o q) := by
  unfold m__law_clear blkP
  refine eq_of (t_eq (in_blk (x := (a, p, o, q)) hp hq hb) (t_bind (P := fun z => z = _) ?_ fun z hz => tot_some hz))
  cases (bl.any fun y => decide (y = (a, p, o, q)))
  · exact t_yes rfl (t_eq (in_blk (x := (o, q, a, p)) hq hp hb) (tot_some (by rw [Bool.false_or])))
  · exact t_no rfl (tot_some rfl)
theorem rst_ok (hs : StaOk fls st) (h0 : 0 ≤ k) (hk : k < fls.length) : PlcOk (rstP st k) := hs.p k h0 hk
theorem want_ok (hf : FlsOk fls) (hs : StaOk fls st) (h0 : 0 ≤ k) (hk : k < fls.length) {p : Plc} (h : wantP fls st k = some p) : PlcOk p := by
  unfold wantP at h
  have a := hs.p k h0 hk
  cases q : atP fls st k with
  | none => rw [q] at h; cases h
  | some x =>
    have b := atP_ok hf hs h0 hk q
    rw [q] at h
    cases x <;> first | (cases h; done) | skip
    · cases h
      exact ⟨a.1, b, a.2⟩
    · cases h
      exact ⟨a.1, b⟩
theorem hindered_eq (hp : PlOk pl fls sts bl) (hf : FlsOk fls) (hs : StaOk fls st) (h0 : 0 ≤ k) (hk : k < fls.length) : m_Plan_hindered_by pl st k = some (hinP fls bl st k) := by
  unfold m_Plan_hindered_by hinP
  rw [hp.f]
  have := hf.n4
  refine eq_of (t_eq (wanted_eq hp hs h0 hk) ?_)
  cases wantP fls st k with
  | none => exact t_yes rfl (tot_some rfl)
  | some p =>
    refine t_no rfl (tot_rng (by omega) ?_)
    rw [find_loop (c := fun o => !(decide (o = k)) && blkP bl k p o (rstP st o)) (g := fun o => some o) fun o m => ?_]
    · exact tot_find1
    · obtain ⟨m0, mk⟩ := mem_rng.mp m
      refine eq_of (t_bind (P := fun z => z = (!(decide (o = k)) && blkP bl k p o (rstP st o))) ?_ fun z hz => ?_)
      · cases decide (o = k)
        · exact t_yes rfl (t_eq (rest_of_eq hs m0 mk) (t_eq (x := p) rfl (t_eq (is_clear_eq hp k p o (rstP st o)) (tot_some (by rw [Bool.not_not]; rfl)))))
        · exact t_no rfl (tot_some rfl)
      · subst hz
        cases (!(decide (o = k)) && blkP bl k p o (rstP st o))
        · exact tot_some rfl
        · exact tot_some rfl
theorem law_hinders_eq (hb : ∀ x ∈ bl, PlcOk x.2.1 ∧ PlcOk x.2.2.2) (hf : FlsOk fls) (hs : StaOk fls st) (h0 : 0 ≤ k) (hk : k < fls.length) : m__law_hinders fls bl st k = some (hinP fls bl st k) := by
  unfold m__law_hinders hinP
  have := hf.n4
  refine eq_of (t_eq (law_wanted_eq hs h0 hk) ?_)
  have hw := @want_ok fls st k hf hs h0 hk
  revert hw
  cases wantP fls st k with
  | none => exact fun _ => t_no rfl (tot_some rfl)
  | some p =>
    intro hw
    have hw := hw rfl
    refine t_yes rfl (tot_rng (by omega) ?_)
    rw [find_loop (c := fun o => !(decide (o = k)) && blkP bl k p o (rstP st o)) (g := fun o => some o) fun o m => ?_]
    · exact tot_find1
    · obtain ⟨m0, mk⟩ := mem_rng.mp m
      refine eq_of (t_eq (hs.at m0 mk) (t_eq (hs.at m0 mk) (t_lt (t_bind (P := fun z => z = (!(decide (o = k)) && blkP bl k p o (rstP st o))) ?_ fun z hz => ?_))))
      · cases decide (o = k)
        · exact t_yes rfl (t_eq (x := p) rfl (t_eq (law_clear_eq hb hw (rst_ok hs m0 mk)) (tot_some (by rw [Bool.not_not]; rfl))))
        · exact t_no rfl (tot_some rfl)
      · subst hz
        cases (!(decide (o = k)) && blkP bl k p o (rstP st o))
        · exact tot_some rfl
        · exact tot_some rfl
theorem law_can_eq (hb : ∀ x ∈ bl, PlcOk x.2.1 ∧ PlcOk x.2.2.2) (hf : FlsOk fls) (hs : StaOk fls st) (h0 : 0 ≤ k) (hk : k < fls.length) : m__law_can fls bl st k = some (canP fls bl st k) := by
  unfold m__law_can canP
  refine eq_of (t_eq (law_at_eq hs h0 hk) ?_)
  cases atP fls st k with
  | none => exact t_yes rfl (tot_some rfl)
  | some x =>
    cases x with
    | w_move p => exact t_no rfl (t_eq (x := Stp.w_move p) rfl (t_no w_move_wait (t_eq (law_hinders_eq hb hf hs h0 hk) (tot_some rfl))))
    | w_hold h => exact t_no rfl (t_eq (x := Stp.w_hold h) rfl (t_no w_hold_wait (t_eq (law_hinders_eq hb hf hs h0 hk) (tot_some rfl))))
    | w_set a b => exact t_no rfl (t_eq (x := Stp.w_set a b) rfl (t_no w_set_wait (t_eq (law_hinders_eq hb hf hs h0 hk) (tot_some rfl))))
    | w_wait a b => exact t_no rfl (t_eq (x := Stp.w_wait a b) rfl (t_yes w_wait_wait (t_eq (x := Stp.w_wait a b) rfl (t_eq (x := a) rfl (t_eq (x := Stp.w_wait a b) rfl (t_eq (x := b) rfl (tot_some rfl)))))))
    | w_jump a => exact t_no rfl (t_eq (x := Stp.w_jump a) rfl (t_no w_jump_wait (t_eq (law_hinders_eq hb hf hs h0 hk) (tot_some rfl))))
    | w_if a b => exact t_no rfl (t_eq (x := Stp.w_if a b) rfl (t_no w_if_wait (t_eq (law_hinders_eq hb hf hs h0 hk) (tot_some rfl))))
theorem law_moved_eq (hf : FlsOk fls) (hs : StaOk fls st) (h0 : 0 ≤ k) (hk : k < fls.length) {i : Int} (hi : 0 ≤ i ∧ i ≤ (flA fls k).length) (p : Str) (h : Option Str) (sg : List Str) : m__law_moved fls st k i p h sg = some (movP fls st k i p h sg) := by
  unfold m__law_moved
  have hz := hf.z h0 hk
  exact eq_of (t_lt (t_eq (atF h0 hk) (t_eq (law_landing_eq (hf.f h0 hk) hi.1 hi.2 (by omega)) (t_eq (setC_eq h0 (by rw [hs.l]; exact hk)) (tot_some rfl)))))
theorem atP_lt (hs : StaOk fls st) (h0 : 0 ≤ k) (hk : k < fls.length) {x : Stp} (h : atP fls st k = some x) : 0 ≤ (spA st k).1 + 1 ∧ (spA st k).1 + 1 ≤ (flA fls k).length := by
  have a := hs.a k h0 hk
  by_cases c : (spA st k).1 < (flA fls k).length
  · omega
  · rw [atP_none c] at h
    cases h
def oP (x : Stp) (p : Str) : Str := match x with
  | .w_move q => q
  | _ => p
def oH (x : Stp) (h : Option Str) : Option Str := match x with
  | .w_hold q => q
  | _ => h
def oS (x : Stp) (sg : List Str) : List Str := match x with
  | .w_set n b => swP sg n b
  | _ => sg
theorem law_outcomes_eq (hf : FlsOk fls) (hs : StaOk fls st) (h0 : 0 ≤ k) (hk : k < fls.length) : m__law_outcomes fls st k = some (outP fls st k) := by
  unfold m__law_outcomes
  refine eq_of (t_eq (law_at_eq hs h0 hk) ?_)
  have hl := hs.sl
  have mv := fun (i : Int) (hi : 0 ≤ i ∧ i ≤ (flA fls k).length) (p : Str) (h : Option Str) (sg : List Str) => law_moved_eq hf hs h0 hk hi p h sg
  unfold outP
  cases q : atP fls st k with
  | none => exact t_yes rfl (tot_some rfl)
  | some x =>
    have h1 := atP_lt hs h0 hk q
    have ho := atP_ok hf hs h0 hk q
    have ha := hs.a k h0 hk
    refine t_no rfl (t_eq (hs.at h0 hk) (t_lt (t_eq (x := x) rfl (t_eq (x := oP x (spA st k).2.1) ?_ (t_eq (x := x) rfl (t_eq (x := oH x (spA st k).2.2) ?_ (t_eq (x := x) rfl ?_)))))))
    · cases x <;> rfl
    · cases x <;> rfl
    refine t_bind (P := fun b => b = (match x with | .w_set n b => b && !(decide (n ∈ st.2)) | _ => false)) ?_ fun b hb => ?_
    · cases x with
      | w_set n b => cases b <;> exact tot_some rfl
      | _ => exact tot_some rfl
    refine t_bind (P := fun s => s = (match x with | .w_set n true => swP st.2 n true | _ => st.2)) ?_ fun s1 hs1 => t_eq (x := x) rfl ?_
    · subst hb
      cases x with
      | w_set n b =>
        cases b with
        | false => exact tot_some rfl
        | true =>
          by_cases c : n ∈ st.2
          · refine t_no (by show (true && !(decide (n ∈ st.2))) = false; rw [decide_eq_true c]; rfl) (tot_some ?_)
            show st.2 = swP st.2 n true
            unfold swP
            rw [if_pos rfl, if_pos c]
          · refine t_yes (by show (true && !(decide (n ∈ st.2))) = true; rw [decide_eq_false c]; rfl) (t_eq (x := Stp.w_set n true) rfl (t_eq (x := n) rfl (tot_app (by omega) (tot_some ?_))))
            show st.2 ++ [n] = swP st.2 n true
            unfold swP
            rw [if_pos rfl, if_neg c]
      | _ => exact tot_some rfl
    refine t_bind (P := fun b => b = (match x with | .w_set n b => !b | _ => false)) ?_ fun b hb => ?_
    · cases x with
      | w_set n b => cases b <;> exact tot_some rfl
      | _ => exact tot_some rfl
    refine t_eq (x := oS x st.2) ?_ ?_
    · subst hb
      subst hs1
      cases x with
      | w_set n b =>
        cases b with
        | true => rfl
        | false => exact eq_of (t_yes rfl (t_eq (x := Stp.w_set n false) rfl (t_eq (x := n) rfl (t_eq (filC_eq (by show st.2.length ≤ _; omega)) (tot_some rfl)))))
      | _ => rfl
    refine t_eq (mv _ h1 _ _ _) (t_lt (t_eq (x := x) rfl ?_))
    cases x with
    | w_if a t => exact t_bind (P := fun z => z = _) (t_yes w_if_if (t_eq (x := Stp.w_if a t) rfl (t_eq (x := t) rfl (t_eq (mv t ⟨by have := ho.2.1; omega, ho.2.2⟩ _ _ _) (tot_app (by show (1 : Nat) < _; decide) (tot_some rfl)))))) fun z hz => tot_some hz
    | w_move p => exact t_bind (P := fun z => z = _) (t_no w_move_if (tot_some rfl)) fun z hz => tot_some hz
    | w_hold p => exact t_bind (P := fun z => z = _) (t_no w_hold_if (tot_some rfl)) fun z hz => tot_some hz
    | w_set p b => exact t_bind (P := fun z => z = _) (t_no w_set_if (tot_some rfl)) fun z hz => tot_some hz
    | w_wait p b => exact t_bind (P := fun z => z = _) (t_no w_wait_if (tot_some rfl)) fun z hz => tot_some hz
    | w_jump p => exact t_bind (P := fun z => z = _) (t_no w_jump_if (tot_some rfl)) fun z hz => tot_some hz
theorem swP_ok {sg : List Str} (h : sg.Nodup) (t : ∀ s ∈ sg, SgOk s) {n : Str} (hn : SgOk n) (b : Bool) : (swP sg n b).Nodup ∧ ∀ s ∈ swP sg n b, SgOk s := by
  unfold swP
  cases b with
  | true =>
    rw [if_pos rfl]
    by_cases c : n ∈ sg
    · rw [if_pos c]; exact ⟨h, t⟩
    · rw [if_neg c]
      refine ⟨List.nodup_append.mpr ⟨h, by simp, fun a ha b hb => ?_⟩, fun s m => ?_⟩
      · rw [List.mem_singleton] at hb
        subst hb
        exact fun e => c (e ▸ ha)
      · rcases List.mem_append.mp m with m | m
        · exact t s m
        · rw [List.mem_singleton] at m
          rw [m]; exact hn
  | false => exact ⟨h.filter _, fun s m => t s ((List.mem_filter.mp m).1)⟩
theorem spA_mov {i : Int} {p : Str} {h : Option Str} {sg : List Str} (hs : StaOk fls st) (h0 : 0 ≤ k) (hk : k < fls.length) (j : Int) (j0 : 0 ≤ j) : spA (movP fls st k i p h sg) j = if j = k then (landP (flA fls k) i, p, h) else spA st j := by
  unfold spA movP
  dsimp only
  rw [List.getElem?_set]
  by_cases c : j = k
  · subst c
    have hl := hs.l
    rw [if_pos rfl, if_pos (by omega), if_pos rfl]
    rfl
  · rw [if_neg (by omega), if_neg c]
theorem mov_ok (hf : FlsOk fls) (hs : StaOk fls st) (h0 : 0 ≤ k) (hk : k < fls.length) {i : Int} (hi : 0 ≤ i ∧ i ≤ (flA fls k).length) {p : Str} (hp : PtOk p) {h : Option Str} (hh : HeOk h) {sg : List Str} (s1 : sg.Nodup) (s2 : ∀ s ∈ sg, SgOk s) : StaOk fls (movP fls st k i p h sg) := by
  have hL := landP_ok (hf.f h0 hk) hi.1 hi.2
  refine ⟨?_, fun j j0 jk => ?_, fun j j0 jk => ?_, s1, s2⟩
  · show (st.1.set _ _).length = _
    rw [List.length_set]
    exact hs.l
  · rw [spA_mov hs h0 hk j j0]
    by_cases c : j = k
    · subst c
      rw [if_pos rfl]
      exact ⟨Int.le_trans hi.1 hL.1, hL.2⟩
    · rw [if_neg c]
      exact hs.a j j0 jk
  · rw [spA_mov hs h0 hk j j0]
    by_cases c : j = k
    · rw [if_pos c]
      exact ⟨hp, hh⟩
    · rw [if_neg c]
      exact hs.p j j0 jk
theorem out_ok (hf : FlsOk fls) (hs : StaOk fls st) (h0 : 0 ≤ k) (hk : k < fls.length) : ∀ s ∈ outP fls st k, StaOk fls s := by
  unfold outP
  have hp := hs.p k h0 hk
  cases q : atP fls st k with
  | none => exact fun s m => nomatch m
  | some x =>
    have h1 := atP_lt hs h0 hk q
    have ho := atP_ok hf hs h0 hk q
    have ha := hs.a k h0 hk
    intro s m
    cases x with
    | w_move p => rw [List.mem_singleton.mp m]; exact mov_ok hf hs h0 hk h1 ho hp.2 hs.s hs.t
    | w_hold h => rw [List.mem_singleton.mp m]; exact mov_ok hf hs h0 hk h1 hp.1 ho hs.s hs.t
    | w_set n b => rw [List.mem_singleton.mp m]; exact mov_ok hf hs h0 hk h1 hp.1 hp.2 (swP_ok hs.s hs.t ho b).1 (swP_ok hs.s hs.t ho b).2
    | w_wait n b => rw [List.mem_singleton.mp m]; exact mov_ok hf hs h0 hk h1 hp.1 hp.2 hs.s hs.t
    | w_jump n => rw [List.mem_singleton.mp m]; exact mov_ok hf hs h0 hk h1 hp.1 hp.2 hs.s hs.t
    | w_if a t =>
      rcases mem2 m with rfl | rfl
      · exact mov_ok hf hs h0 hk h1 hp.1 hp.2 hs.s hs.t
      · exact mov_ok hf hs h0 hk ⟨by have := ho.2.1; omega, ho.2.2⟩ hp.1 hp.2 hs.s hs.t
theorem can_out (h : canP fls bl st k = true) : 1 ≤ (outP fls st k).length ∧ (outP fls st k).length ≤ 2 := by
  unfold canP at h
  unfold outP
  cases q : atP fls st k with
  | none => rw [q] at h; cases h
  | some x => cases x <;> first | exact ⟨Nat.le_refl _, Nat.le_succ _⟩ | exact ⟨Nat.le_succ _, Nat.le_refl _⟩
end

theorem sh_sta {fls : List (List Stp)} {st : Sta} (h : StaOk fls st) : shD 4 ((dT2 (dV (dT3 Dt.int Dt.str (dO Dt.str))) (dV Dt.str)) st) = true := by
  refine shD_tup (n := 3) fun z m => ?_
  simp only [List.mem_cons, List.not_mem_nil, or_false] at m
  rcases m with rfl | rfl
  · refine shD_dV (n := 2) fun x mx => ?_
    obtain ⟨i, hi⟩ := List.getElem?_of_mem mx
    have c : i < st.1.length := (List.getElem?_eq_some_iff.mp hi).1
    have hx : spA st (i : Int) = x := by
      unfold spA
      rw [show ((i : Int)).toNat = i from rfl, hi]
      rfl
    have hp := h.p (i : Int) (by omega) (by have := h.l; omega)
    rw [hx] at hp
    refine shD_tup (n := 1) fun z m => ?_
    simp only [List.mem_cons, List.not_mem_nil, or_false] at m
    rcases m with rfl | rfl | rfl
    · exact sh_int ..
    · exact shD_le (sh_pt hp.1) (by decide)
    · exact shD_le (sh_he hp.2) (by decide)
  · exact shD_dV (n := 2) fun x mx => shD_le (sh_sg (h.t x mx)) (by decide)
theorem sh_stp {n : Nat} {i : Int} {x : Stp} (h : StpOk n i x) : shD 1 (d_Stp x) = true := by
  cases x with
  | w_move p =>
    refine shD_tup (n := 0) fun z m => ?_
    simp only [List.mem_cons, List.not_mem_nil, or_false] at m
    rcases m with rfl | rfl
    · exact sh_w (lay_w (by decide))
    · exact sh_pt h
  | w_hold p =>
    refine shD_tup (n := 0) fun z m => ?_
    simp only [List.mem_cons, List.not_mem_nil, or_false] at m
    rcases m with rfl | rfl
    · exact sh_w (lay_w (by decide))
    · exact sh_he h
  | w_set p b =>
    refine shD_tup (n := 0) fun z m => ?_
    simp only [List.mem_cons, List.not_mem_nil, or_false] at m
    rcases m with rfl | rfl | rfl
    · exact sh_w (lay_w (by decide))
    · exact sh_sg h
    · exact sh_bl ..
  | w_wait p b =>
    refine shD_tup (n := 0) fun z m => ?_
    simp only [List.mem_cons, List.not_mem_nil, or_false] at m
    rcases m with rfl | rfl | rfl
    · exact sh_w (lay_w (by decide))
    · exact sh_sg h
    · exact sh_bl ..
  | w_jump p =>
    refine shD_tup (n := 0) fun z m => ?_
    simp only [List.mem_cons, List.not_mem_nil, or_false] at m
    rcases m with rfl | rfl
    · exact sh_w (lay_w (by decide))
    · exact sh_int ..
  | w_if p b =>
    refine shD_tup (n := 0) fun z m => ?_
    simp only [List.mem_cons, List.not_mem_nil, or_false] at m
    rcases m with rfl | rfl | rfl
    · exact sh_w (lay_w (by decide))
    · rw [h.1]
      exact sh_w (lay_w (by decide))
    · exact sh_int ..
theorem sh_opt {α : Type} {em : α → Dt} {x : Option α} (h : ∀ y, x = some y → shD 1 (em y) = true) : shD 1 ((dO em) x) = true := by
  cases x with
  | none => unfold dO; unfold shD; rfl
  | some y => exact h y rfl

section
variable {pl : Plan} {fls : List (List Stp)} {sts : List Str} {bl : List Blk} {st : Sta} {k : Int}
theorem has_ended_eq (hp : PlOk pl fls sts bl) (hs : StaOk fls st) (h0 : 0 ≤ k) (hk : k < fls.length) : m_Plan_has_ended pl st k = some (atP fls st k).isNone := by
  unfold m_Plan_has_ended
  rw [hp.f, atP_isNone hs h0 hk]
  exact eq_of (t_eq (hs.at h0 hk) (t_eq (atF h0 hk) (tot_some rfl)))
theorem all_ended_eq (hp : PlOk pl fls sts bl) (hf : FlsOk fls) (hs : StaOk fls st) : m_Plan_all_ended pl st = some (endP fls st) := by
  unfold m_Plan_all_ended endP
  rw [hp.f]
  have := hf.n4
  refine eq_of (tot_rng (by omega) ?_)
  rw [find_loop (c := fun o => (atP fls st o).isSome) (g := fun _ => false) fun o m => ?_]
  · exact tot_find2
  · obtain ⟨m0, mk⟩ := mem_rng.mp m
    refine eq_of (t_eq (has_ended_eq hp hs m0 mk) ?_)
    cases atP fls st o
    · exact tot_some rfl
    · exact tot_some rfl
end

/-! loops that fold -/
theorem forL_sim {α S T : Type} {φ : T → S} {g : T → α → T} {f : α → S → Option S} : ∀ {xs : List α} {I : Nat → T → Prop} {t : T}, (∀ i x t, xs[i]? = some x → I i t → f x (φ t) = some (φ (g t x)) ∧ I (i + 1) (g t x)) → I 0 t → forL xs (φ t) f = some (φ (xs.foldl g t)) ∧ I xs.length (xs.foldl g t)
  | [], I, t, _, h => ⟨rfl, h⟩
  | x :: xs, I, t, k, h => by
    obtain ⟨e, h1⟩ := k 0 x t rfl h
    obtain ⟨e2, h2⟩ := forL_sim (xs := xs) (I := fun i => I (i + 1)) (fun i y s hy hs => k (i + 1) y s hy hs) h1
    refine ⟨?_, h2⟩
    show (f x (φ t)).bind (fun s' => forL xs s' f) = _
    rw [e]
    exact e2
theorem forL_fold {α S : Type} {g : S → α → S} {f : α → S → Option S} {xs : List α} {s : S} (h : ∀ x s, x ∈ xs → f x s = some (g s x)) : forL xs s f = some (xs.foldl g s) :=
  (forL_sim (φ := id) (I := fun _ _ => True) (fun i x t e _ => ⟨h x t (List.mem_of_getElem? e), trivial⟩) trivial).1
theorem fold_le {α : Type} {a b b' : α → Int} : ∀ {xs : List α} {s s' : Int}, s' ≤ s → (∀ x ∈ xs, b x ≤ b' x) → xs.foldl (fun s x => s + a x - b' x) s' ≤ xs.foldl (fun s x => s + a x - b x) s
  | [], _, _, h, _ => h
  | x :: xs, s, s', h, k => fold_le (xs := xs) (by have := k x (List.mem_cons_self ..); show s' + a x - b' x ≤ s + a x - b x; omega) fun y m => k y (List.mem_cons_of_mem _ m)
theorem fold_lt {α : Type} {a b b' : α → Int} : ∀ {xs : List α} {s s' : Int}, s' ≤ s → (∀ x ∈ xs, b x ≤ b' x) → (∃ x ∈ xs, b x < b' x) → xs.foldl (fun s x => s + a x - b' x) s' < xs.foldl (fun s x => s + a x - b x) s
  | [], _, _, _, _, ⟨_, m, _⟩ => nomatch m
  | x :: xs, s, s', h, k, ⟨y, m, hy⟩ => by
    have kx := k x (List.mem_cons_self ..)
    rcases List.mem_cons.mp m with rfl | m
    · have := fold_le (a := a) (b := b) (b' := b') (xs := xs) (s := s + a y - b y - 1) (s' := s' + a y - b' y) (by omega) fun z m => k z (List.mem_cons_of_mem _ m)
      have e : ∀ (xs : List α) (u : Int), xs.foldl (fun s x => s + a x - b x) (u - 1) = xs.foldl (fun s x => s + a x - b x) u - 1 := by
        intro xs
        induction xs with
        | nil => intro u; rfl
        | cons z xs ih =>
          intro u
          show xs.foldl _ (u - 1 + a z - b z) = xs.foldl _ (u + a z - b z) - 1
          rw [show u - 1 + a z - b z = (u + a z - b z) - 1 by omega, ih]
      rw [e] at this
      show xs.foldl _ (s' + a y - b' y) < xs.foldl _ (s + a y - b y)
      omega
    · exact fold_lt (xs := xs) (by show s' + a x - b' x ≤ s + a x - b x; omega) (fun z m => k z (List.mem_cons_of_mem _ m)) ⟨y, m, hy⟩
theorem enum_fold {α S : Type} (d : α) {g : S → Int × α → S} {h : S → Int → S} : ∀ (xs : List α) (s : S), (∀ s (k : Int), 0 ≤ k → k < xs.length → g s (k, xs[k.toNat]?.getD d) = h s k) → (enumL xs 0).foldl g s = (rng 0 xs.length).foldl h s := fun xs s hg => by
  have e : (enumL xs 0) = (rng 0 xs.length).map fun k => (k, xs[k.toNat]?.getD d) := by
    have := enum_map (g := fun x => x) (h := fun k => (k, xs[k.toNat]?.getD d)) d xs fun k _ _ => rfl
    rwa [List.map_id'] at this
  rw [e, List.foldl_map]
  have : ∀ (ks : List Int) (s : S), (∀ k ∈ ks, 0 ≤ k ∧ k < xs.length) → ks.foldl (fun s k => g s (k, xs[k.toNat]?.getD d)) s = ks.foldl h s := by
    intro ks
    induction ks with
    | nil => intro s _; rfl
    | cons k ks ih =>
      intro s hk
      have := hk k (List.mem_cons_self ..)
      show ks.foldl _ (g s (k, xs[k.toNat]?.getD d)) = ks.foldl _ (h s k)
      rw [hg s k this.1 this.2]
      exact ih _ fun k m => hk k (List.mem_cons_of_mem _ m)
  exact this _ _ fun k m => mem_rng.mp m

theorem can_step_eq {pl : Plan} {fls : List (List Stp)} {sts : List Str} {bl : List Blk} {st : Sta} {k : Int} (hp : PlOk pl fls sts bl) (hf : FlsOk fls) (hs : StaOk fls st) (h0 : 0 ≤ k) (hk : k < fls.length) : m_Plan_can_step pl st k = some (canP fls bl st k) := by
  unfold m_Plan_can_step canP
  refine eq_of (t_eq (step_of_eq hp hs h0 hk) ?_)
  cases atP fls st k with
  | none => exact t_yes rfl (tot_some rfl)
  | some x =>
    cases x with
    | w_move p => exact t_no rfl (t_eq (x := Stp.w_move p) rfl (t_no w_move_wait (t_eq (hindered_eq hp hf hs h0 hk) (tot_some rfl))))
    | w_hold h => exact t_no rfl (t_eq (x := Stp.w_hold h) rfl (t_no w_hold_wait (t_eq (hindered_eq hp hf hs h0 hk) (tot_some rfl))))
    | w_set a b => exact t_no rfl (t_eq (x := Stp.w_set a b) rfl (t_no w_set_wait (t_eq (hindered_eq hp hf hs h0 hk) (tot_some rfl))))
    | w_wait a b => exact t_no rfl (t_eq (x := Stp.w_wait a b) rfl (t_yes w_wait_wait (t_eq (x := Stp.w_wait a b) rfl (t_eq (x := a) rfl (t_eq (x := Stp.w_wait a b) rfl (t_eq (x := b) rfl (tot_some rfl)))))))
    | w_jump a => exact t_no rfl (t_eq (x := Stp.w_jump a) rfl (t_no w_jump_wait (t_eq (hindered_eq hp hf hs h0 hk) (tot_some rfl))))
    | w_if a b => exact t_no rfl (t_eq (x := Stp.w_if a b) rfl (t_no w_if_wait (t_eq (hindered_eq hp hf hs h0 hk) (tot_some rfl))))

end G

namespace G
open PySem L2 DL
theorem tot_forR {α S R : Type} {W : S → Prop} {P : R → Prop} {f : α → S → Option (Fl S R)} : ∀ {xs : List α} {s : S}, W s → (∀ x s, x ∈ xs → W s → Tot (f x s) fun o => (∃ s', o = .nx s' ∧ W s') ∨ ∃ r, o = .rt r ∧ P r) → Tot (forF xs s f) fun o => (∃ s', o = .nx s' ∧ W s') ∨ ∃ r, o = .rt r ∧ P r
  | [], s, h, _ => tot_some (.inl ⟨s, rfl, h⟩)
  | x :: xs, s, h, k => by
    show Tot ((f x s).bind (Fl.step fun s' => forF xs s' f)) _
    refine t_bind (k x s (List.mem_cons_self ..) h) fun o ho => ?_
    rcases ho with ⟨s', rfl, hs⟩ | ⟨r, rfl, hr⟩
    · exact tot_forR hs fun y t m => k y t (List.mem_cons_of_mem _ m)
    · exact tot_some (.inr ⟨r, rfl, hr⟩)
theorem tot_thenR {S R ρ : Type} {W : S → Prop} {P : R → Prop} {Q : ρ → Prop} {m : Option (Fl S R)} {k : S → Option ρ} {e : R → ρ} (h : Tot m fun o => (∃ s', o = .nx s' ∧ W s') ∨ ∃ r, o = .rt r ∧ P r) (h1 : ∀ s, W s → Tot (k s) Q) (h2 : ∀ r, P r → Q (e r)) : Tot (thenF m k e) Q := by
  obtain ⟨o, e1, ho⟩ := h
  rw [e1]
  rcases ho with ⟨s', rfl, hs⟩ | ⟨r, rfl, hr⟩
  · exact h1 s' hs
  · exact tot_some (h2 r hr)
/-! more blocked pairs -/
def BlOk (n : Nat) (x : Blk) : Prop := ((0 ≤ x.1 ∧ x.1 < n) ∧ (0 ≤ x.2.2.1 ∧ x.2.2.1 < n) ∧ x.1 ≠ x.2.2.1) ∧ PlcOk x.2.1 ∧ PlcOk x.2.2.2
theorem law_more_ok {ds : List Int} {n : Nat} (hd : Dg ds) (hn : n ≤ 4) : Tot (m__law_more ds (n : Int)) fun r => (r.1.length ≤ 100 ∧ ∀ x ∈ r.1, BlOk n x) ∧ Dg r.2 := by
  unfold m__law_more
  refine t_lt (t_bind (P := fun r : Bool × List Int => Dg r.2) (tot_ite (fun _ => tot_some hd) fun _ => t_bind (dig hd (by decide) (by decide)) fun r ⟨_, d⟩ => tot_some d) fun r hr => tot_ite (fun _ => tot_some ⟨⟨Nat.zero_le _, fun x m => nomatch m⟩, hr⟩) fun _ => ?_)
  refine t_bind (tot_forLi (W := fun i (s : List Blk) => s.length ≤ 40 * i ∧ ∀ x ∈ s, BlOk n x) ⟨Nat.zero_le _, fun x m => nomatch m⟩ fun i p s hi ⟨sl, sa⟩ => ?_) fun s ⟨sl, sa⟩ => tot_some ⟨⟨by have : s.length ≤ 40 * 2 := sl; show s.length ≤ 100; omega, sa⟩, hr⟩
  have hp : PtOk p := mem2 (List.mem_of_getElem? hi)
  refine tot_rng (by omega) (t_bind (tot_forLi (W := fun j (t : List Blk) => t.length ≤ s.length + 4 * j ∧ ∀ x ∈ t, BlOk n x) ⟨Nat.le_refl _, sa⟩ fun j o t hj ⟨tl, ta⟩ => ?_) fun t ⟨tl, ta⟩ => tot_some ⟨by rw [rng_len] at tl; omega, ta⟩)
  obtain ⟨ej, hj2⟩ := rng_get hj
  have ho : 1 ≤ o ∧ o < n := by omega
  have hj4 : j ≤ 4 := by omega
  have hi2 : i < 2 := (List.getElem?_eq_some_iff.mp hi).1
  refine t_bind (tot_forLi (W := fun k (u : List Blk) => u.length ≤ t.length + 2 * k ∧ ∀ x ∈ u, BlOk n x) ⟨Nat.le_refl _, ta⟩ fun k h u hk ⟨ul, ua⟩ => ?_) fun u ⟨ul, ua⟩ => tot_some ⟨by have : u.length ≤ t.length + 2 * 2 := ul; omega, ua⟩
  have hh : HeOk h := mem2 (List.mem_of_getElem? hk)
  have hk2 : k < 2 := (List.getElem?_eq_some_iff.mp hk).1
  refine tot_app (by omega) (tot_app (by rw [List.length_append]; show u.length + 1 < _; omega) (tot_some ⟨by rw [List.length_append, List.length_append]; show u.length + 1 + 1 ≤ _; omega, fun x m => ?_⟩))
  rcases List.mem_append.mp m with m | m
  · rcases List.mem_append.mp m with m | m
    · exact ua x m
    · rw [List.mem_singleton] at m
      subst m
      exact ⟨⟨⟨by show (0 : Int) ≤ o - 1; omega, by show o - 1 < (n : Int); omega⟩, ⟨by show (0 : Int) ≤ o; omega, ho.2⟩, by show o - 1 ≠ o; omega⟩, ⟨.inl rfl, .inr rfl, .inl rfl⟩, hp, hh⟩
  · rw [List.mem_singleton] at m
    subst m
    exact ⟨⟨⟨by show (0 : Int) ≤ o; omega, ho.2⟩, ⟨by show (0 : Int) ≤ o - 1; omega, by show o - 1 < (n : Int); omega⟩, by show o ≠ o - 1; omega⟩, ⟨hp, .inl rfl, hh⟩, .inl rfl, .inl rfl⟩
/-! lists without doubles -/
theorem nodup_le : ∀ (n : Nat) (xs : List Int), xs.Nodup → (∀ x ∈ xs, 0 ≤ x ∧ x < n) → xs.length ≤ n
  | 0, [], _, _ => Nat.le_refl _
  | 0, x :: xs, _, h => by
    have := h x (List.mem_cons_self ..)
    omega
  | n + 1, xs, hd, h => by
    have key : ∀ (ys : List Int), ys.Nodup → ys.length ≤ (ys.filter fun x => !(decide (x = (n : Int)))).length + 1 := by
      intro ys
      induction ys with
      | nil => intro _; exact Nat.zero_le _
      | cons y ys ih =>
        intro hy
        obtain ⟨h1, h2⟩ := List.nodup_cons.mp hy
        by_cases c : y = (n : Int)
        · rw [List.filter_cons_of_neg (by rw [decide_eq_true c]; decide)]
          have : ys.filter (fun x => !(decide (x = (n : Int)))) = ys := List.filter_eq_self.mpr fun z m => by
            have : z ≠ (n : Int) := fun e => h1 (by rw [c, ← e]; exact m)
            rw [decide_eq_false this]
            rfl
          rw [this]
          exact Nat.le_refl _
        · rw [List.filter_cons_of_pos (by rw [decide_eq_false c]; rfl)]
          exact Nat.succ_le_succ (ih h2)
    have a := key xs hd
    have b := nodup_le n (xs.filter fun x => !(decide (x = (n : Int)))) (hd.filter _) fun x m => by
      obtain ⟨m1, m2⟩ := List.mem_filter.mp m
      have := h x m1
      have : x ≠ (n : Int) := fun e => by rw [decide_eq_true e] at m2; cases m2
      omega
    omega
theorem findI_mem {y : Int} : ∀ {xs : List Int} (k : Nat), y ∈ xs → ∃ j, findI y xs k = some j
  | x :: xs, k, h => by
    unfold findI
    by_cases e : x = y
    · exact ⟨k, if_pos e⟩
    · rw [if_neg e]
      rcases List.mem_cons.mp h with rfl | m
      · exact absurd rfl e
      · exact findI_mem (k + 1) m
theorem idx_of {xs : List Int} {y : Int} (h : y ∈ xs) : ∃ i : Nat, idxL xs y = some (i : Int) ∧ xs[i]? = some y := by
  obtain ⟨j, e⟩ := findI_mem (xs := xs) (y := y) 0 h
  obtain ⟨i, e1, e2, _⟩ := findI_at e
  obtain rfl : j = i := by omega
  refine ⟨j, ?_, e2⟩
  unfold idxL
  rw [e]
  rfl
theorem nodup_at : ∀ {xs : List Int}, xs.Nodup → ∀ {i j : Nat} {y : Int}, xs[i]? = some y → xs[j]? = some y → i = j
  | [], _, i, j, y, h1, _ => by cases h1
  | x :: xs, hd, 0, 0, y, _, _ => rfl
  | x :: xs, hd, 0, j + 1, y, h1, h2 => by
    cases h1
    exact absurd (List.mem_of_getElem? (l := xs) h2) (List.nodup_cons.mp hd).1
  | x :: xs, hd, i + 1, 0, y, h1, h2 => by
    cases h2
    exact absurd (List.mem_of_getElem? (l := xs) h1) (List.nodup_cons.mp hd).1
  | x :: xs, hd, i + 1, j + 1, y, h1, h2 => congrArg (· + 1) (nodup_at (xs := xs) (List.nodup_cons.mp hd).2 h1 h2)
theorem idx_at {xs : List Int} (hd : xs.Nodup) {i : Nat} {y : Int} (h : xs[i]? = some y) : idxL xs y = some (i : Int) := by
  obtain ⟨j, e1, e2⟩ := idx_of (List.mem_of_getElem? h)
  rw [e1, nodup_at hd e2 h]
theorem cut_drop {xs : List Int} {i : Nat} (h : i ≤ xs.length) : cutL xs (some (i : Int)) none = xs.drop i := by
  unfold cutL
  have e1 : HT.sIx xs.length 0 (some (i : Int)) = i := by
    rw [HT.sIx_nat]
    omega
  have e2 : HT.sIx xs.length xs.length none = xs.length := rfl
  rw [e1, e2]
  exact List.take_of_length_le (by rw [List.length_drop]; exact Nat.le_refl _)
/-! the chain -/
section
variable {pl : Plan} {fls : List (List Stp)} {sts : List Str} {bl : List Blk} {st : Sta}
structure Jc (fls : List (List Stp)) (bl : List Blk) (st : Sta) (c : List Int) : Prop where
  d : c.Nodup
  m : ∀ x ∈ c, 0 ≤ x ∧ x < fls.length
  h : ∃ x, c[0]? = some x ∧ (atP fls st x).isSome = true
  n : ∀ (i : Nat) x y, c[i]? = some x → c[i + 1]? = some y → hinP fls bl st x = some y
/-- what is told -/
def Rc (fls : List (List Stp)) (bl : List Blk) (st : Sta) : Option Hld → Prop
  | none => True
  | some (.w_ended _ _) => True
  | some (.w_signal _ s _) => SgOk s
  | some (.w_ring c) => c.Nodup ∧ (∀ x ∈ c, 0 ≤ x ∧ x < fls.length) ∧ ∀ (i : Nat) x, c[i]? = some x → ∃ y, c[(i + 1) % c.length]? = some y ∧ hinP fls bl st x = some y
def stpC (fls : List (List Stp)) (bl : List Blk) (st : Sta) (c : List Int) (o : Fl (List Int) (Option Hld)) : Prop :=
  (∃ r, o = .rt r ∧ Rc fls bl st r) ∨ ∃ y, o = .nx (c ++ [y]) ∧ Jc fls bl st (c ++ [y])
theorem hin_rng {k o : Int} (h : hinP fls bl st k = some o) : 0 ≤ o ∧ o < fls.length := by
  unfold hinP at h
  cases q : wantP fls st k with
  | none => rw [q] at h; cases h
  | some p =>
    rw [q] at h
    exact mem_rng.mp (List.mem_of_find?_eq_some h)
theorem chain_step {c : List Int} (hf : FlsOk fls) (hs : StaOk fls st) (hn : ∀ k : Int, 0 ≤ k → k < fls.length → canP fls bl st k = false) (J : Jc fls bl st c) : ∃ o, stpC fls bl st c o ∧
    ∃ (L : Nat) (a : Int), c.length = L + 1 ∧ c[L]? = some a ∧ (0 ≤ a ∧ a < fls.length) ∧
      ((atP fls st a = none ∧ ∃ b, c[L - 1]? = some b ∧ 1 ≤ L ∧ o = .rt (some (Hld.w_ended b a))) ∨
       (∃ n b, atP fls st a = some (.w_wait n b) ∧ o = .rt (some (Hld.w_signal a n b))) ∨
       (∃ x, atP fls st a = some x ∧ decide (x.word = ("wait" : Str)) = false ∧ ∃ h, hinP fls bl st a = some h ∧
         ((h ∈ c ∧ ∃ i : Nat, idxL c h = some (i : Int) ∧ o = .rt (some (Hld.w_ring (cutL c (some (i : Int)) none)))) ∨ (h ∉ c ∧ o = .nx (c ++ [h]))))) := by
  obtain ⟨x0, e0, h0⟩ := J.h
  have hl : 0 < c.length := (List.getElem?_eq_some_iff.mp e0).1
  obtain ⟨L, hL⟩ : ∃ L, c.length = L + 1 := ⟨c.length - 1, by omega⟩
  obtain ⟨a, ea⟩ : ∃ a, c[L]? = some a := ⟨c[L]'(by omega), List.getElem?_eq_getElem (by omega)⟩
  have ha := J.m a (List.mem_of_getElem? ea)
  cases q : atP fls st a with
  | none =>
    have L1 : 1 ≤ L := by
      by_cases z : L = 0
      · subst z
        rw [ea] at e0
        cases e0
        rw [q] at h0
        cases h0
      · omega
    obtain ⟨b, eb⟩ : ∃ b, c[L - 1]? = some b := ⟨c[L - 1]'(by omega), List.getElem?_eq_getElem (by omega)⟩
    exact ⟨.rt (some (Hld.w_ended b a)), .inl ⟨some (Hld.w_ended b a), rfl, trivial⟩, L, a, hL, ea, ha, .inl ⟨q, b, eb, L1, rfl⟩⟩
  | some x =>
    have ok := atP_ok hf hs ha.1 ha.2 q
    by_cases w : ∃ n b, x = .w_wait n b
    · obtain ⟨n, b, rfl⟩ := w
      exact ⟨.rt (some (Hld.w_signal a n b)), .inl ⟨some (Hld.w_signal a n b), rfl, ok⟩, L, a, hL, ea, ha, .inr (.inl ⟨n, b, q, rfl⟩)⟩
    · have hw : decide (x.word = ("wait" : Str)) = false := by
        cases x with
        | w_wait n b => exact absurd ⟨n, b, rfl⟩ w
        | w_move p => exact w_move_wait
        | w_hold p => exact w_hold_wait
        | w_set p b => exact w_set_wait
        | w_jump p => exact w_jump_wait
        | w_if p b => exact w_if_wait
      have hc := hn a ha.1 ha.2
      have : (hinP fls bl st a).isNone = false := by
        unfold canP at hc
        rw [q] at hc
        cases x with
        | w_wait n b => exact absurd ⟨n, b, rfl⟩ w
        | _ => exact hc
      cases hh : hinP fls bl st a with
      | none => rw [hh] at this; cases this
      | some h =>
        have hr := hin_rng hh
        by_cases mc : h ∈ c
        · obtain ⟨i, ei, ci⟩ := idx_of mc
          have il : i < c.length := (List.getElem?_eq_some_iff.mp ci).1
          refine ⟨.rt (some (Hld.w_ring (cutL c (some (i : Int)) none))), .inl ⟨some (Hld.w_ring (cutL c (some (i : Int)) none)), rfl, ?_⟩, L, a, hL, ea, ha, .inr (.inr ⟨x, q, hw, h, hh, .inl ⟨mc, i, ei, rfl⟩⟩)⟩
          rw [cut_drop (by omega)]
          refine ⟨J.d.sublist (List.drop_sublist i c), fun z m => J.m z (List.mem_of_mem_drop m), fun j z ez => ?_⟩
          rw [List.getElem?_drop] at ez
          have jl : i + j < c.length := (List.getElem?_eq_some_iff.mp ez).1
          rw [List.length_drop]
          by_cases last : i + j = L
          · rw [last, ea] at ez
            cases ez
            refine ⟨h, ?_, hh⟩
            rw [show (j + 1) % (c.length - i) = 0 by rw [show j + 1 = c.length - i by omega]; exact Nat.mod_self _]
            rw [List.getElem?_drop]
            exact ci
          · have hlt : j + 1 < c.length - i := by omega
            rw [Nat.mod_eq_of_lt hlt, List.getElem?_drop]
            obtain ⟨y, ey⟩ : ∃ y, c[i + j + 1]? = some y := ⟨c[i + j + 1]'(by omega), List.getElem?_eq_getElem (by omega)⟩
            exact ⟨y, by rw [show i + (j + 1) = i + j + 1 by omega]; exact ey, J.n (i + j) z y ez ey⟩
        · refine ⟨.nx (c ++ [h]), .inr ⟨h, rfl, ?_⟩, L, a, hL, ea, ha, .inr (.inr ⟨x, q, hw, h, hh, .inr ⟨mc, rfl⟩⟩)⟩
          refine ⟨List.nodup_append.mpr ⟨J.d, by simp, fun u hu v hv => ?_⟩, fun z m => ?_, ⟨x0, ?_, h0⟩, fun i u v eu ev => ?_⟩
          · rw [List.mem_singleton] at hv
            subst hv
            exact fun e => mc (e ▸ hu)
          · rcases List.mem_append.mp m with m | m
            · exact J.m z m
            · rw [List.mem_singleton] at m
              subst m
              exact hr
          · rw [List.getElem?_append_left hl]
            exact e0
          · have vl : i + 1 < (c ++ [h]).length := (List.getElem?_eq_some_iff.mp ev).1
            rw [List.length_append] at vl
            have vl : i + 1 < c.length + 1 := vl
            rw [List.getElem?_append_left (by omega)] at eu
            by_cases z : i + 1 < c.length
            · rw [List.getElem?_append_left z] at ev
              exact J.n i u v eu ev
            · have iL : i = L := by omega
              subst iL
              rw [ea] at eu
              cases eu
              rw [List.getElem?_append_right (by omega), show i + 1 - c.length = 0 by omega] at ev
              cases ev
              exact hh
/-- both loops come to the same end -/
theorem chain_end (hf : FlsOk fls) (hs : StaOk fls st) (hn : ∀ k : Int, 0 ≤ k → k < fls.length → canP fls bl st k = false)
    {bf : List Int → Option (Fl (List Int) (Option Hld))} {lf : Int → List Int → Option (Fl (List Int) (Option Hld))}
    (h1 : ∀ c o, Jc fls bl st c → (∃ (L : Nat) (a : Int), c.length = L + 1 ∧ c[L]? = some a ∧ (0 ≤ a ∧ a < fls.length) ∧
      ((atP fls st a = none ∧ ∃ b, c[L - 1]? = some b ∧ 1 ≤ L ∧ o = .rt (some (Hld.w_ended b a))) ∨
       (∃ n b, atP fls st a = some (.w_wait n b) ∧ o = .rt (some (Hld.w_signal a n b))) ∨
       (∃ x, atP fls st a = some x ∧ decide (x.word = ("wait" : Str)) = false ∧ ∃ h, hinP fls bl st a = some h ∧
         ((h ∈ c ∧ ∃ i : Nat, idxL c h = some (i : Int) ∧ o = .rt (some (Hld.w_ring (cutL c (some (i : Int)) none)))) ∨ (h ∉ c ∧ o = .nx (c ++ [h])))))) → bf c = some o ∧ ∀ k, lf k c = some o) :
    ∀ (m : Nat) (c : List Int), Jc fls bl st c → fls.length ≤ c.length + m → ∃ r, Rc fls bl st r ∧ (∀ n, m < n → whileF n c (fun _ => some true) bf = some (.rt r)) ∧ ∀ xs : List Int, m < xs.length → forF xs c lf = some (.rt r) := by
  intro m
  induction m with
  | zero =>
    intro c J hl
    obtain ⟨o, so, hx⟩ := chain_step hf hs hn J
    obtain ⟨b1, b2⟩ := h1 c o J hx
    rcases so with ⟨r, rfl, hr⟩ | ⟨y, rfl, J2⟩
    · refine ⟨r, hr, fun n hn => ?_, fun xs hx => ?_⟩
      · cases n with
        | zero => omega
        | succ n =>
          show (bf c).bind _ = _
          rw [b1]
          rfl
      · cases xs with
        | nil => exact absurd hx (Nat.lt_irrefl _)
        | cons x xs =>
          show (lf x c).bind _ = _
          rw [b2]
          rfl
    · have := nodup_le fls.length _ J2.d J2.m
      rw [List.length_append] at this
      have : c.length + 1 ≤ fls.length := this
      omega
  | succ m ih =>
    intro c J hl
    obtain ⟨o, so, hx⟩ := chain_step hf hs hn J
    obtain ⟨b1, b2⟩ := h1 c o J hx
    rcases so with ⟨r, rfl, hr⟩ | ⟨y, rfl, J2⟩
    · refine ⟨r, hr, fun n hn => ?_, fun xs hx => ?_⟩
      · cases n with
        | zero => omega
        | succ n =>
          show (bf c).bind _ = _
          rw [b1]
          rfl
      · cases xs with
        | nil => exact absurd hx (Nat.not_lt_zero _)
        | cons x xs =>
          show (lf x c).bind _ = _
          rw [b2]
          rfl
    · obtain ⟨r, hr, w1, w2⟩ := ih (c ++ [y]) J2 (by rw [List.length_append]; show _ ≤ c.length + 1 + m; omega)
      refine ⟨r, hr, fun n hn => ?_, fun xs hx => ?_⟩
      · cases n with
        | zero => omega
        | succ n =>
          show (bf c).bind _ = _
          rw [b1]
          exact w1 n (by omega)
      · cases xs with
        | nil => exact absurd hx (Nat.not_lt_zero _)
        | cons x xs =>
          show (lf x c).bind _ = _
          rw [b2]
          exact w2 xs (by have : m + 1 < xs.length + 1 := hx; omega)
/-- the first arm that has not ended -/
def frsP (fls : List (List Stp)) (st : Sta) : List Int := match (rng 0 fls.length).find? fun k => (atP fls st k).isSome with
  | some k => [k]
  | none => []
theorem frs_loop {f : Int → List Int → Option (List Int)} {c : Int → Bool} : ∀ (xs : List Int), (∀ k s, k ∈ xs → s.length ≤ 1 → f k s = some (if s.length = 0 ∧ c k = true then s ++ [k] else s)) → forL xs [] f = some (match xs.find? c with | some k => [k] | none => []) := by
  have full : ∀ (xs : List Int), (∀ k s, k ∈ xs → s.length ≤ 1 → f k s = some (if s.length = 0 ∧ c k = true then s ++ [k] else s)) → ∀ (k : Int), forL xs [k] f = some [k] := by
    intro xs
    induction xs with
    | nil => intro _ k; rfl
    | cons x xs ih =>
      intro h k
      show (f x [k]).bind _ = _
      rw [h x [k] (List.mem_cons_self ..) (Nat.le_refl _), if_neg (fun z => by cases z.1)]
      exact ih (fun k s m => h k s (List.mem_cons_of_mem _ m)) k
  intro xs
  induction xs with
  | nil => intro _; rfl
  | cons x xs ih =>
    intro h
    show (f x []).bind _ = _
    rw [h x [] (List.mem_cons_self ..) (Nat.zero_le _)]
    by_cases q : c x = true
    · rw [if_pos ⟨rfl, q⟩, List.find?_cons_of_pos q]
      exact full xs (fun k s m => h k s (List.mem_cons_of_mem _ m)) x
    · rw [if_neg (fun z => q z.2), List.find?_cons_of_neg q]
      exact ih fun k s m => h k s (List.mem_cons_of_mem _ m)
theorem fl_rt {R : Type} {r : R} {f : Int → List Int → Option (Fl (List Int) R)} {c d : Int → Bool} : ∀ (xs : List Int), (∀ x s, x ∈ xs → c x = true → f x s = some (.rt r)) → (∀ x s, x ∈ xs → s.length ≤ 1 → c x = false → f x s = some (.nx (if s.length = 0 ∧ d x = true then s ++ [x] else s))) → (∃ k ∈ xs, c k = true) → ∀ s, s.length ≤ 1 → forF xs s f = some (.rt r)
  | [], _, _, ⟨_, m, _⟩, _, _ => nomatch m
  | x :: xs, h1, h2, ⟨k, m, hk⟩, s, hs => by
    show (f x s).bind (Fl.step fun s' => forF xs s' f) = _
    cases q : c x with
    | true =>
      rw [h1 x s (List.mem_cons_self ..) q]
      rfl
    | false =>
      rw [h2 x s (List.mem_cons_self ..) hs q]
      refine fl_rt xs (fun x s m => h1 x s (List.mem_cons_of_mem _ m)) (fun x s m => h2 x s (List.mem_cons_of_mem _ m)) ?_ _ ?_
      · rcases List.mem_cons.mp m with rfl | m
        · rw [q] at hk; cases hk
        · exact ⟨k, m, hk⟩
      · by_cases z : s.length = 0 ∧ d x = true
        · rw [if_pos z, List.length_append]
          show s.length + 1 ≤ 1
          omega
        · rw [if_neg z]; exact hs
theorem fl_nx {R : Type} {f : Int → List Int → Option (Fl (List Int) R)} {c d : Int → Bool} (xs : List Int) (h2 : ∀ x s, x ∈ xs → s.length ≤ 1 → c x = false → f x s = some (.nx (if s.length = 0 ∧ d x = true then s ++ [x] else s))) (hc : ∀ x ∈ xs, c x = false) : forF xs [] f = some (.nx (match xs.find? d with | some k => [k] | none => [])) := by
  have full : ∀ (xs : List Int), (∀ x s, x ∈ xs → s.length ≤ 1 → f x s = some (.nx (if s.length = 0 ∧ d x = true then s ++ [x] else s))) → ∀ (k : Int), forF xs [k] f = some (.nx [k]) := by
    intro xs
    induction xs with
    | nil => intro _ k; rfl
    | cons x xs ih =>
      intro h k
      show (f x [k]).bind (Fl.step fun s' => forF xs s' f) = _
      rw [h x [k] (List.mem_cons_self ..) (Nat.le_refl _), if_neg (fun z => by cases z.1)]
      exact ih (fun k s m => h k s (List.mem_cons_of_mem _ m)) k
  have h2 : ∀ x s, x ∈ xs → s.length ≤ 1 → f x s = some (.nx (if s.length = 0 ∧ d x = true then s ++ [x] else s)) := fun x s m l => h2 x s m l (hc x m)
  clear hc
  induction xs with
  | nil => rfl
  | cons x xs ih =>
    show (f x []).bind (Fl.step fun s' => forF xs s' f) = _
    rw [h2 x [] (List.mem_cons_self ..) (Nat.zero_le _)]
    by_cases q : d x = true
    · rw [if_pos ⟨rfl, q⟩, List.find?_cons_of_pos q]
      exact full xs (fun k s m => h2 k s (List.mem_cons_of_mem _ m)) x
    · rw [if_neg (fun z => q z.2), List.find?_cons_of_neg q]
      exact ih (fun x s m l _ => h2 x s (List.mem_cons_of_mem _ m) l) fun k s m => h2 k s (List.mem_cons_of_mem _ m)
theorem thenF_nx {S R ρ : Type} {s : S} {k : S → Option ρ} {e : R → ρ} : thenF (some (.nx s)) k e = k s := rfl
/-- one more for the chain? -/
theorem add_one {b : Bool} {x : Int} {s : List Int} {m : Option Bool} (hm : m = some b) (hs : s.length ≤ 1) : ((if (decide ((s.length : Int) = 0)) = true then m else some false).bind fun b9 => (if b9 = true then (appC s x).bind fun c => some c else some s).bind fun s11 => some s11) = some (if s.length = 0 ∧ b = true then s ++ [x] else s) := by
  subst hm
  by_cases z : s.length = 0
  · rw [if_pos (decide_eq_true (by omega))]
    cases b with
    | true =>
      rw [if_pos ⟨z, rfl⟩]
      show (((appC s x).bind fun c => some c).bind fun s11 => some s11) = _
      rw [appC_eq (by omega)]
      rfl
    | false => rw [if_neg fun q => by cases q.2]; rfl
  · rw [if_neg (by rw [decide_eq_true_eq]; omega), if_neg fun q => z q.1]
    rfl
theorem add_one' {b : Bool} {x : Int} {s : List Int} {m : Option Bool} (hm : m = some b) (hs : s.length ≤ 1) : ((if (decide ((s.length : Int) = 0)) = true then m else some false).bind fun b9 => (if b9 = true then (appC s x).bind fun c => some c else some s).bind fun s11 => some (Fl.nx (R := Option Hld) s11)) = some (.nx (if s.length = 0 ∧ b = true then s ++ [x] else s)) := by
  have := add_one (x := x) hm hs
  have e : ∀ (o : Option Bool), (o.bind fun b9 => (if b9 = true then (appC s x).bind fun c => some c else some s).bind fun s11 => some (Fl.nx (R := Option Hld) s11)) = ((o.bind fun b9 => (if b9 = true then (appC s x).bind fun c => some c else some s).bind fun s11 => some s11).map Fl.nx) := by
    intro o
    cases o with
    | none => rfl
    | some b =>
      show ((if b = true then (appC s x).bind fun c => some c else some s).bind _) = ((if b = true then (appC s x).bind fun c => some c else some s).bind _).map _
      cases (if b = true then (appC s x).bind fun c => some c else some s) <;> rfl
  rw [e, this]
  rfl
theorem can_none (hn : ∀ k : Int, 0 ≤ k → k < fls.length → canP fls bl st k = false) : (rng 0 (fls.length : Int)).find? (fun k => canP fls bl st k) = none := by
  rw [List.find?_eq_none]
  intro k m
  rw [hn k (mem_rng.mp m).1 (mem_rng.mp m).2]
  decide
theorem first_stepper_eq (hp : PlOk pl fls sts bl) (hf : FlsOk fls) (hs : StaOk fls st) : m_first_stepper pl st = some ((rng 0 (fls.length : Int)).find? fun k => canP fls bl st k) := by
  unfold m_first_stepper
  rw [hp.f]
  have := hf.n4
  refine eq_of (tot_rng (by omega) ?_)
  rw [find_loop (c := fun o => canP fls bl st o) (g := fun o => some o) fun o m => ?_]
  · exact tot_find1
  · obtain ⟨m0, mk⟩ := mem_rng.mp m
    refine eq_of (t_eq (can_step_eq hp hf hs m0 mk) ?_)
    cases canP fls bl st o
    · exact tot_some rfl
    · exact tot_some rfl
theorem find_ended : ((rng 0 (fls.length : Int)).find? fun k => (atP fls st k).isSome).isNone = endP fls st := rfl
theorem jc_one {k : Int} (h : (rng 0 (fls.length : Int)).find? (fun k => (atP fls st k).isSome) = some k) : Jc fls bl st [k] := by
  have hm := mem_rng.mp (List.mem_of_find?_eq_some h)
  have hc := List.find?_some h
  exact ⟨by simp, fun x m => by rw [List.mem_singleton.mp m]; exact hm, ⟨k, rfl, hc⟩, fun i x y _ e => by cases e⟩
theorem at_last {c : List Int} {L : Nat} {a : Int} (hl : c.length = L + 1) (h : c[L]? = some a) : atC c (-1) = some a ∧ atC c ((c.length : Int) - 1) = some a := by
  constructor
  · unfold atC atI ixN
    rw [if_neg (by decide), if_pos (by omega)]
    show c[((-1 : Int) + c.length).toNat]? = some a
    rw [show ((-1 : Int) + c.length).toNat = L by omega]
    exact h
  · rw [show ((c.length : Int) - 1) = ((L : Nat) : Int) by omega, atC_nat]
    exact h
theorem at_ahead {c : List Int} {L : Nat} {b : Int} (hl : c.length = L + 1) (h1 : 1 ≤ L) (h : c[L - 1]? = some b) : atC c (-2) = some b ∧ atC c ((c.length : Int) - 2) = some b := by
  constructor
  · unfold atC atI ixN
    rw [if_neg (by decide), if_pos (by omega)]
    show c[((-2 : Int) + c.length).toNat]? = some b
    rw [show ((-2 : Int) + c.length).toNat = L - 1 by omega]
    exact h
  · rw [show ((c.length : Int) - 2) = ((L - 1 : Nat) : Int) by omega, atC_nat]
    exact h
theorem holds_eq (hp : PlOk pl fls sts bl) (hb : ∀ x ∈ bl, PlcOk x.2.1 ∧ PlcOk x.2.2.2) (hf : FlsOk fls) (hs : StaOk fls st) : ∃ r, Rc fls bl st r ∧ m_what_holds_up pl st = some r ∧ m__law_holds fls bl st = some r := by
  have n4 := hf.n4
  have n1 := hf.n1
  have hfl := hp.f
  have lawB1 : ∀ x s, x ∈ rng 0 (fls.length : Int) → canP fls bl st x = true → (fun (arm4 : Int) (s3 : List Int) =>
(m__law_can fls bl st arm4).bind fun t5 =>
if t5 = true then
some (Fl.rt (S := List Int) (none : (Option Hld)))
else
(if (decide ((s3.length : Int) = 0)) = true then (m__law_at fls st arm4).bind fun t6 => some (!t6.isNone) else some false).bind fun b7 =>
(if b7 = true then
(appC s3 arm4).bind fun chain8 =>
some (chain8 : (List Int))
else
some (s3 : (List Int))).bind fun (s9 : (List Int)) =>
some (Fl.nx (R := Option Hld) s9)) x s = some (.rt none) := fun x s m q => by
    obtain ⟨m0, mk⟩ := mem_rng.mp m
    refine eq_of (t_eq (law_can_eq hb hf hs m0 mk) (t_yes q (tot_some rfl)))
  have lawB2 : ∀ x s, x ∈ rng 0 (fls.length : Int) → s.length ≤ 1 → canP fls bl st x = false → (fun (arm4 : Int) (s3 : List Int) =>
(m__law_can fls bl st arm4).bind fun t5 =>
if t5 = true then
some (Fl.rt (S := List Int) (none : (Option Hld)))
else
(if (decide ((s3.length : Int) = 0)) = true then (m__law_at fls st arm4).bind fun t6 => some (!t6.isNone) else some false).bind fun b7 =>
(if b7 = true then
(appC s3 arm4).bind fun chain8 =>
some (chain8 : (List Int))
else
some (s3 : (List Int))).bind fun (s9 : (List Int)) =>
some (Fl.nx (R := Option Hld) s9)) x s = some (.nx (if s.length = 0 ∧ (atP fls st x).isSome = true then s ++ [x] else s)) := fun x s m l q => by
    obtain ⟨m0, mk⟩ := mem_rng.mp m
    refine eq_of (t_eq (law_can_eq hb hf hs m0 mk) (t_no q ?_))
    exact tot_eq (add_one' (b := (atP fls st x).isSome) (eq_of (t_eq (law_at_eq hs m0 mk) (tot_some (by cases atP fls st x <;> rfl)))) l)
  cases hc : (rng 0 (fls.length : Int)).find? (fun k => canP fls bl st k) with
  | some k0 =>
    refine ⟨none, trivial, ?_, ?_⟩
    · unfold m_what_holds_up
      refine eq_of (t_eq (all_ended_eq hp hf hs) (t_bind (P := fun b => b = true) ?_ fun b hb => t_yes hb (tot_some rfl)))
      cases endP fls st
      · exact t_no rfl (t_eq (first_stepper_eq hp hf hs) (tot_some (by rw [hc]; rfl)))
      · exact t_yes rfl (tot_some rfl)
    · unfold m__law_holds
      refine eq_of (t_lt (tot_rng (by omega) ?_))
      rw [fl_rt (r := none) (c := fun k => canP fls bl st k) (d := fun k => (atP fls st k).isSome) (rng 0 (fls.length : Int)) (fun x s m q => lawB1 x s m q) (fun x s m l q => lawB2 x s m l q) ⟨k0, List.mem_of_find?_eq_some hc, List.find?_some hc⟩ [] (Nat.zero_le _)]
      exact tot_some rfl
  | none =>
    have hn : ∀ k : Int, 0 ≤ k → k < fls.length → canP fls bl st k = false := fun k h0 hk => by
      have := (List.find?_eq_none.mp hc) k (mem_rng.mpr ⟨h0, hk⟩)
      cases q : canP fls bl st k
      · rfl
      · exact absurd q this
    have lawF := fl_nx (c := fun k => canP fls bl st k) (d := fun k => (atP fls st k).isSome) (rng 0 (fls.length : Int)) (fun x s m l q => lawB2 x s m l q) (fun x m => hn x (mem_rng.mp m).1 (mem_rng.mp m).2)
    cases he : (rng 0 (fls.length : Int)).find? (fun k => (atP fls st k).isSome) with
    | none =>
      refine ⟨none, trivial, ?_, ?_⟩
      · unfold m_what_holds_up
        refine eq_of (t_eq (all_ended_eq hp hf hs) (t_bind (P := fun b => b = true) (t_yes ?_ (tot_some rfl)) fun b hb => t_yes hb (tot_some rfl)))
        rw [← find_ended, he]
        rfl
      · unfold m__law_holds
        refine eq_of (t_lt (tot_rng (by omega) ?_))
        rw [lawF, he, thenF_nx]
        refine (tot_rng (by omega) ?_)
        have : rng 0 ((fls.length : Int) + 1) = 0 :: (rng 0 ((fls.length : Int) + 1)).tail := by
          unfold rng
          rw [show ((fls.length : Int) + 1 - 0).toNat = fls.length + 1 by omega, List.range_succ_eq_map]
          rfl
        rw [this]
        exact tot_some rfl
    | some k =>
      have J := jc_one (bl := bl) he
      obtain ⟨r, hr, w1, w2⟩ := chain_end (bl := bl) (st := st) hf hs hn (bf := fun s13 =>
(atC s13 (-1)).bind fun t14 =>
(m_Plan_step_of pl st t14).bind fun t15 =>
if t15.isNone = true then
(atC s13 (-2)).bind fun t16 =>
some (.rt (some (Hld.w_ended t16 t14)))
else
(t15).bind fun o17 =>
if (decide (o17.word = ("wait" : Str))) = true then
(t15).bind fun o18 =>
(Stp.at1S o18).bind fun t19 =>
(t15).bind fun o20 =>
(Stp.at2B o20).bind fun t21 =>
some (.rt (some (Hld.w_signal t14 t19 t21)))
else
(m_Plan_hindered_by pl st t14).bind fun t22 =>
(t22).bind fun o23 =>
if (decide (o23 ∈ s13)) = true then
(t22).bind fun o24 =>
(idxL s13 o24).bind fun t25 =>
some (.rt (some (Hld.w_ring (cutL s13 (some t25) (none)))))
else
(t22).bind fun o26 =>
(appC s13 o26).bind fun chain27 =>
some (.nx chain27)) (lf := fun k13 s12 =>
if (decide ((s12.length : Int) = 0)) = true then
some (.rt (none : (Option Hld)))
else
(atC s12 ((s12.length : Int) - 1)).bind fun t14 =>
(m__law_at fls st t14).bind fun t15 =>
if t15.isNone = true then
(atC s12 ((s12.length : Int) - 2)).bind fun t16 =>
some (.rt (some (Hld.w_ended t16 t14)))
else
(t15).bind fun o17 =>
if (decide (o17.word = ("wait" : Str))) = true then
(t15).bind fun o18 =>
(Stp.at1S o18).bind fun t19 =>
(t15).bind fun o20 =>
(Stp.at2B o20).bind fun t21 =>
some (.rt (some (Hld.w_signal t14 t19 t21)))
else
(m__law_hinders fls bl st t14).bind fun t22 =>
(t22).bind fun o23 =>
if (decide (o23 ∈ s12)) = true then
(t22).bind fun o24 =>
(idxL s12 o24).bind fun t25 =>
some (.rt (some (Hld.w_ring (cutL s12 (some t25) (none)))))
else
(t22).bind fun o26 =>
(appC s12 o26).bind fun chain27 =>
some (.nx chain27)) (fun c o Jc_ hx => by
        obtain ⟨L, a, hL, ea, ⟨a0, ak⟩, hx⟩ := hx
        have cl := nodup_le fls.length c Jc_.d Jc_.m
        have el := at_last hL ea
        have ne : decide ((c.length : Int) = 0) = false := decide_eq_false (by omega)
        rcases hx with ⟨q, b, eb, L1, rfl⟩ | ⟨n, b, q, rfl⟩ | ⟨x, q, hw, h, hh, hx⟩
        · have ep := at_ahead hL L1 eb
          refine ⟨eq_of (t_eq el.1 (t_eq (step_of_eq hp hs a0 ak) ?_)), fun k => eq_of (t_no ne (t_eq el.2 (t_eq (law_at_eq hs a0 ak) ?_)))⟩
          · rw [q]; exact t_yes rfl (t_eq ep.1 (tot_some rfl))
          · rw [q]; exact t_yes rfl (t_eq ep.2 (tot_some rfl))
        · refine ⟨eq_of (t_eq el.1 (t_eq (step_of_eq hp hs a0 ak) ?_)), fun k => eq_of (t_no ne (t_eq el.2 (t_eq (law_at_eq hs a0 ak) ?_)))⟩
          · rw [q]; exact t_no rfl (t_eq (x := Stp.w_wait n b) rfl (t_yes w_wait_wait (t_eq (x := Stp.w_wait n b) rfl (t_eq (x := n) rfl (t_eq (x := Stp.w_wait n b) rfl (t_eq (x := b) rfl (tot_some rfl)))))))
          · rw [q]; exact t_no rfl (t_eq (x := Stp.w_wait n b) rfl (t_yes w_wait_wait (t_eq (x := Stp.w_wait n b) rfl (t_eq (x := n) rfl (t_eq (x := Stp.w_wait n b) rfl (t_eq (x := b) rfl (tot_some rfl)))))))
        · have tail : Tot ((some h : Option Int).bind fun o23 =>
if (decide (o23 ∈ c)) = true then
(some h : Option Int).bind fun o24 =>
(idxL c o24).bind fun t25 =>
some (Fl.rt (S := List Int) (some (Hld.w_ring (cutL c (some t25) (none)))))
else
(some h : Option Int).bind fun o26 =>
(appC c o26).bind fun chain27 =>
some (.nx chain27)) (· = o) := by
            rcases hx with ⟨mc, i, ei, rfl⟩ | ⟨mc, rfl⟩
            · exact t_eq (x := h) rfl (t_yes (decide_eq_true mc) (t_eq (x := h) rfl (t_eq ei (tot_some rfl))))
            · exact t_eq (x := h) rfl (t_no (decide_eq_false mc) (t_eq (x := h) rfl (tot_app (by omega) (tot_some rfl))))
          refine ⟨eq_of (t_eq el.1 (t_eq (step_of_eq hp hs a0 ak) ?_)), fun k => eq_of (t_no ne (t_eq el.2 (t_eq (law_at_eq hs a0 ak) ?_)))⟩
          · rw [q]; refine t_no rfl (t_eq (x := x) rfl (t_no hw (t_eq (hindered_eq hp hf hs a0 ak) ?_)))
            rw [hh]
            exact tail
          · rw [q]; refine t_no rfl (t_eq (x := x) rfl (t_no hw (t_eq (law_hinders_eq hb hf hs a0 ak) ?_)))
            rw [hh]
            exact tail) fls.length [k] J (by omega)
      refine ⟨r, hr, ?_, ?_⟩
      · unfold m_what_holds_up
        refine eq_of (t_eq (all_ended_eq hp hf hs) (t_bind (P := fun b => b = false) (t_no ?_ (t_eq (first_stepper_eq hp hf hs) (tot_some (by rw [hc]; rfl)))) fun b hb => t_no hb (t_lt ?_)))
        · rw [← find_ended, he]
          rfl
        rw [hfl]
        refine tot_rng (by omega) (t_eq (x := [k]) ?_ ?_)
        · have e := frs_loop (c := fun k => (atP fls st k).isSome) (f := fun arm7 s6 =>
(if (decide ((s6.length : Int) = 0)) = true then (m_Plan_has_ended pl st arm7).bind fun t8 => some (!t8) else some false).bind fun b9 =>
(if b9 = true then
(appC s6 arm7).bind fun chain10 =>
some (chain10 : (List Int))
else
some (s6 : (List Int))).bind fun (s11 : (List Int)) =>
some (s11 : (List Int))) (rng 0 (fls.length : Int)) fun x s m l => add_one (b := (atP fls st x).isSome) (eq_of (t_eq (has_ended_eq hp hs (mem_rng.mp m).1 (mem_rng.mp m).2) (tot_some (by cases atP fls st x <;> rfl)))) l
          rw [he] at e
          exact e
        · rw [w1 1000000 (by omega)]
          exact tot_some rfl
      · unfold m__law_holds
        refine eq_of (t_lt (tot_rng (by omega) ?_))
        rw [lawF, he, thenF_nx]
        refine (tot_rng (by omega) ?_)
        rw [w2 (rng 0 ((fls.length : Int) + 1)) (by rw [rng_len]; omega)]
        exact tot_some rfl
end
theorem law_next_ok {fls : List (List Stp)} {bl : List Blk} {st : Sta} {ds : List Int} (hf : FlsOk fls) (hb : ∀ x ∈ bl, PlcOk x.2.1 ∧ PlcOk x.2.2.2) (hs : StaOk fls st) (hd : Dg ds) : Tot (m__law_next ds fls bl st) fun r => Dg r.2 ∧ ∀ s, r.1 = some s → StaOk fls s := by
  unfold m__law_next
  have n1 := hf.n1
  have n4 := hf.n4
  refine t_bind (dig hd (by omega) (by omega)) fun t1 ⟨r1, d1⟩ => tot_rng (by omega) ?_
  refine tot_thenR (W := Dg) (P := fun r : Option Sta × List Int => Dg r.2 ∧ ∀ s, r.1 = some s → StaOk fls s) (tot_forR d1 fun k s m hs2 => ?_) (fun s hs => tot_some ⟨hs, fun s e => nomatch e⟩) fun r h => h
  refine tot_mod (by omega) fun m0 mk => t_eq (law_can_eq hb hf hs m0 mk) (tot_ite (fun cn => t_eq (law_outcomes_eq hf hs m0 mk) ?_) fun _ => tot_some (.inl ⟨s, rfl, hs2⟩))
  have hc := can_out cn
  refine t_bind (dig hs2 (by omega) (by omega)) fun t8 ⟨⟨r8, r8'⟩, d8⟩ => t_at r8 r8' fun y my _ => tot_some (.inr ⟨_, rfl, d8, fun s e => ?_⟩)
  cases e
  exact out_ok hf hs m0 mk y my
theorem sh_hld {fls : List (List Stp)} {bl : List Blk} {st : Sta} {r : Option Hld} (h : Rc fls bl st r) : shD 2 ((dO d_Hld) r) = true := by
  cases r with
  | none => unfold dO; unfold shD; rfl
  | some x =>
    cases x with
    | w_ended a b =>
      refine shD_tup (n := 1) fun z m => ?_
      simp only [List.mem_cons, List.not_mem_nil, or_false] at m
      rcases m with rfl | rfl | rfl
      · exact shD_le (sh_w (lay_w (by decide))) (by decide)
      · exact sh_int ..
      · exact sh_int ..
    | w_signal a n b =>
      refine shD_tup (n := 1) fun z m => ?_
      simp only [List.mem_cons, List.not_mem_nil, or_false] at m
      rcases m with rfl | rfl | rfl | rfl
      · exact shD_le (sh_w (lay_w (by decide))) (by decide)
      · exact sh_int ..
      · exact shD_le (sh_sg h) (by decide)
      · exact sh_bl ..
    | w_ring c =>
      refine shD_tup (n := 1) fun z m => ?_
      simp only [List.mem_cons, List.not_mem_nil, or_false] at m
      rcases m with rfl | rfl
      · exact shD_le (sh_w (lay_w (by decide))) (by decide)
      · refine shD_lst (n := 0) fun z m => ?_
        obtain ⟨i, _, rfl⟩ := List.mem_map.mp m
        exact sh_int ..
def isRing : Option Hld → Bool
  | some (.w_ring _) => true
  | _ => false
theorem ring_dec : decide (("ended" : Str) = ("ring" : Str)) = false ∧ decide (("signal" : Str) = ("ring" : Str)) = false ∧ decide (("ring" : Str) = ("ring" : Str)) = true := ⟨by decide, by decide, decide_eq_true rfl⟩
theorem law_true (ns : List Int) (hl : ns.length ≤ 63) (hb : ∀ z ∈ ns, Builtin.Int.intBits z ≤ 1048576) : m_law ns = some true := by
  unfold m_law
  refine tot_true ?_
  refine t_bind (digits_ok hb hl (by decide) (by decide)) fun ds hd => t_bind (law_plan_ok hd) fun r ⟨ok, hd2⟩ => ?_
  obtain ⟨⟨fls, sts, bl⟩, ds2⟩ := r
  have ok : PlanOk fls sts bl := ok
  have hf := ok.fls
  have n1 := hf.n1
  have n4 := hf.n4
  have bn := ok.bn
  refine t_bind (law_more_ok hd2 n4) fun r2 ⟨⟨ml, ma⟩, hd3⟩ => ?_
  obtain ⟨bl2, ds3⟩ := r2
  have ml : bl2.length ≤ 100 := ml
  have ma : ∀ x ∈ bl2, BlOk fls.length x := ma
  refine t_eq (x := bl ++ bl2) (if_pos (by show bl.length + bl2.length ≤ _; omega)) ?_
  have hbo : ∀ x ∈ bl ++ bl2, PlcOk x.2.1 ∧ PlcOk x.2.2.2 := fun x m => by
    rcases List.mem_append.mp m with m | m
    · exact (ok.bo x m).2
    · exact (ma x m).2
  refine t_bind (plan_init_ok (sts := sts) (bl := bl ++ bl2) (by show fls.length ≤ _; omega) (by rw [List.length_append]; omega)) fun pl hp => ?_
  refine t_eq (law_start_eq hf ok.sl) (t_lt ?_)
  have s0 := stP_ok hf ok.sl ok.so
  refine tot_thenR (W := fun s : Option Sta × List Int => ∃ st, s.1 = some st ∧ StaOk fls st ∧ Dg s.2) (P := fun r : Bool => r = true) (tot_forR ⟨_, rfl, s0, hd3⟩ fun k s _ ⟨st, e, hs, hd⟩ => ?_) (fun _ _ => tot_some rfl) fun r h => h
  obtain ⟨o, ds⟩ := s
  have e : o = some st := e
  subst e
  obtain ⟨h, hr, w1, w2⟩ := holds_eq hp hbo hf hs
  refine t_eq (x := st) rfl (t_eq w1 (t_eq (x := st) rfl (t_eq w2 (t_eq (eqDC_same (sh_hld hr) (by decide)) (t_no rfl ?_)))))
  have nxt : Tot ((some st : Option Sta).bind fun o => (m__law_next ds fls (bl ++ bl2) o).bind fun t30 => if t30.1.isNone = true then some (Fl.rt true) else some (Fl.nx (t30.1, t30.2))) fun o => (∃ s', o = .nx s' ∧ ∃ st, s'.1 = some st ∧ StaOk fls st ∧ Dg s'.2) ∨ ∃ r, o = .rt r ∧ r = true :=
    t_eq (x := st) rfl (t_bind (law_next_ok hf hbo hs hd) fun r ⟨d, ha⟩ => by
      obtain ⟨q, ds'⟩ := r
      cases q with
      | none => exact t_yes rfl (tot_some (.inr ⟨_, rfl, rfl⟩))
      | some s' => exact t_no rfl (tot_some (.inl ⟨_, rfl, s', rfl, ha s' rfl, d⟩)))
  refine t_bind (P := fun b => b = isRing h) ?_ fun b hb => ?_
  · cases h with
    | none => exact t_no rfl (tot_some rfl)
    | some x =>
      cases x with
      | w_ended a b => exact t_yes rfl (t_eq (x := Hld.w_ended a b) rfl (tot_some ring_dec.1))
      | w_signal a n b => exact t_yes rfl (t_eq (x := Hld.w_signal a n b) rfl (tot_some ring_dec.2.1))
      | w_ring c => exact t_yes rfl (t_eq (x := Hld.w_ring c) rfl (tot_some ring_dec.2.2))
  cases h with
  | none => exact t_no hb nxt
  | some x =>
    cases x with
    | w_ended a b => exact t_no hb nxt
    | w_signal a n b => exact t_no hb nxt
    | w_ring c =>
      obtain ⟨cd, cm, cn⟩ : c.Nodup ∧ (∀ x ∈ c, 0 ≤ x ∧ x < fls.length) ∧ ∀ (i : Nat) x, c[i]? = some x → ∃ y, c[(i + 1) % c.length]? = some y ∧ hinP fls (bl ++ bl2) st x = some y := hr
      have cl := nodup_le fls.length c cd cm
      refine t_yes hb (t_eq (x := Hld.w_ring c) rfl (t_eq (x := c) rfl (tot_rng (by omega) ?_)))
      refine tot_thenR (W := fun _ => True) (P := fun r : Bool => r = true) (tot_forR trivial fun i u m _ => ?_) (fun _ _ => nxt) fun r h => .inr ⟨r, rfl, h⟩
      obtain ⟨i0, il⟩ := mem_rng.mp m
      obtain ⟨x, ex, xm, xg⟩ := atC_get i0 il
      obtain ⟨y, ey, hy⟩ := cn i.toNat x xg
      have eq1 : (i + 1) % (c.length : Int) = (((i.toNat + 1) % c.length : Nat) : Int) := by
        have e : (i + 1 : Int) = ((i.toNat + 1 : Nat) : Int) := by omega
        rw [e]
        exact (Int.natCast_emod _ _).symm
      have hx := cm x xm
      refine tot_mod (by omega) fun z0 z1 => t_eq (x := y) (by rw [eq1, atC_nat]; exact ey) (t_eq ex (t_eq (x := st) rfl (t_eq (law_hinders_eq hbo hf hs hx.1 hx.2) ?_)))
      rw [hy]
      refine t_bind (P := fun b => b = false) (t_no (by rw [decide_eq_true rfl]; rfl) (t_eq (idx_at cd ey) (tot_mod (by omega) fun _ _ => tot_some ?_))) fun b hb => t_no hb (tot_some (.inl ⟨(), rfl, trivial⟩))
      rw [decide_eq_true eq1.symm]
      rfl
end G

namespace G
open PySem L2 DL PyProof.Rows
def topS (i : Nat) : Stmt := PySem.Challenge.pw_armwarrant_k65_what_holds_up.main.body.getD i (.Pass ⟨0, 0, 0, 0⟩)
structure Ads where
  w : World
  c_Plan : Addr
  f__law_number : Addr
  d__law_number : FuncData
  f__law_digits : Addr
  d__law_digits : FuncData
  f__law_digit : Addr
  d__law_digit : FuncData
  f__law_step : Addr
  d__law_step : FuncData
  f__law_place : Addr
  d__law_place : FuncData
  f__law_plan : Addr
  d__law_plan : FuncData
  f__law_more : Addr
  d__law_more : FuncData
  f_Plan_init : Addr
  d_Plan_init : FuncData
  t_Plan_init_blocked : Addr
  f__law_landing : Addr
  d__law_landing : FuncData
  f__law_start : Addr
  d__law_start : FuncData
  f_Plan_has_ended : Addr
  d_Plan_has_ended : FuncData
  f_Plan_all_ended : Addr
  d_Plan_all_ended : FuncData
  f_Plan_step_of : Addr
  d_Plan_step_of : FuncData
  f_Plan_wanted : Addr
  d_Plan_wanted : FuncData
  f_Plan_rest_of : Addr
  d_Plan_rest_of : FuncData
  f_Plan_is_clear : Addr
  d_Plan_is_clear : FuncData
  f_Plan_hindered_by : Addr
  d_Plan_hindered_by : FuncData
  f_Plan_can_step : Addr
  d_Plan_can_step : FuncData
  f_first_stepper : Addr
  d_first_stepper : FuncData
  f_what_holds_up : Addr
  d_what_holds_up : FuncData
  f__law_at : Addr
  d__law_at : FuncData
  f__law_wanted : Addr
  d__law_wanted : FuncData
  f__law_clear : Addr
  d__law_clear : FuncData
  f__law_hinders : Addr
  d__law_hinders : FuncData
  f__law_can : Addr
  d__law_can : FuncData
  f__law_holds : Addr
  d__law_holds : FuncData
  f__law_moved : Addr
  d__law_moved : FuncData
  f__law_outcomes : Addr
  d__law_outcomes : FuncData
  f__law_next : Addr
  d__law_next : FuncData
  f_law : Addr
  d_law : FuncData
abbrev d_Plan (A : Ads) (x : Plan) : Dt := .obj A.c_Plan [(("flows" : Str), .lst (List.map (dL d_Stp) x.flows)), (("starts" : Str), .lst (List.map Dt.str x.starts)), (("blocks" : Str), (Dt.dic A.w) x.blocks)]
structure Top (K : PySem.W.Frag) (mg : Str → Option Value) (A : Ads) : Prop where
  F__law_number : Fun K "_law_number" "_law_number" (topS 7) A.f__law_number A.d__law_number
  g__law_number : mg "_law_number" = some (.ref A.f__law_number)
  F__law_digits : Fun K "_law_digits" "_law_digits" (topS 8) A.f__law_digits A.d__law_digits
  g__law_digits : mg "_law_digits" = some (.ref A.f__law_digits)
  F__law_digit : Fun K "_law_digit" "_law_digit" (topS 9) A.f__law_digit A.d__law_digit
  g__law_digit : mg "_law_digit" = some (.ref A.f__law_digit)
  F__law_step : Fun K "_law_step" "_law_step" (topS 10) A.f__law_step A.d__law_step
  g__law_step : mg "_law_step" = some (.ref A.f__law_step)
  F__law_place : Fun K "_law_place" "_law_place" (topS 11) A.f__law_place A.d__law_place
  g__law_place : mg "_law_place" = some (.ref A.f__law_place)
  F__law_plan : Fun K "_law_plan" "_law_plan" (topS 12) A.f__law_plan A.d__law_plan
  g__law_plan : mg "_law_plan" = some (.ref A.f__law_plan)
  F__law_more : Fun K "_law_more" "_law_more" (topS 23) A.f__law_more A.d__law_more
  g__law_more : mg "_law_more" = some (.ref A.f__law_more)
  F_Plan_init : Fun K "__init__" "Plan.__init__" (inClass (topS 5) 0) A.f_Plan_init A.d_Plan_init
  D_Plan_init : FunD K "__init__" "Plan.__init__" (defArgs (inClass (topS 5) 0)) (defBody (inClass (topS 5) 0)) (defScope (inClass (topS 5) 0)) [] [(("blocked" : Str), V.ref A.t_Plan_init_blocked)] A.f_Plan_init A.d_Plan_init
  e_Plan_init_blocked : ∀ G : Hp, Rep K G (.ref A.t_Plan_init_blocked) (.tup [])
  F__law_landing : Fun K "_law_landing" "_law_landing" (topS 13) A.f__law_landing A.d__law_landing
  g__law_landing : mg "_law_landing" = some (.ref A.f__law_landing)
  F__law_start : Fun K "_law_start" "_law_start" (topS 14) A.f__law_start A.d__law_start
  g__law_start : mg "_law_start" = some (.ref A.f__law_start)
  F_Plan_has_ended : Fun K "has_ended" "Plan.has_ended" (inClass (topS 5) 4) A.f_Plan_has_ended A.d_Plan_has_ended
  m_Plan_has_ended : Meth K A.c_Plan "has_ended" A.f_Plan_has_ended
  F_Plan_all_ended : Fun K "all_ended" "Plan.all_ended" (inClass (topS 5) 5) A.f_Plan_all_ended A.d_Plan_all_ended
  m_Plan_all_ended : Meth K A.c_Plan "all_ended" A.f_Plan_all_ended
  F_Plan_step_of : Fun K "step_of" "Plan.step_of" (inClass (topS 5) 3) A.f_Plan_step_of A.d_Plan_step_of
  m_Plan_step_of : Meth K A.c_Plan "step_of" A.f_Plan_step_of
  F_Plan_wanted : Fun K "wanted" "Plan.wanted" (inClass (topS 5) 7) A.f_Plan_wanted A.d_Plan_wanted
  m_Plan_wanted : Meth K A.c_Plan "wanted" A.f_Plan_wanted
  F_Plan_rest_of : Fun K "rest_of" "Plan.rest_of" (inClass (topS 5) 6) A.f_Plan_rest_of A.d_Plan_rest_of
  m_Plan_rest_of : Meth K A.c_Plan "rest_of" A.f_Plan_rest_of
  F_Plan_is_clear : Fun K "is_clear" "Plan.is_clear" (inClass (topS 5) 1) A.f_Plan_is_clear A.d_Plan_is_clear
  m_Plan_is_clear : Meth K A.c_Plan "is_clear" A.f_Plan_is_clear
  F_Plan_hindered_by : Fun K "hindered_by" "Plan.hindered_by" (inClass (topS 5) 8) A.f_Plan_hindered_by A.d_Plan_hindered_by
  m_Plan_hindered_by : Meth K A.c_Plan "hindered_by" A.f_Plan_hindered_by
  F_Plan_can_step : Fun K "can_step" "Plan.can_step" (inClass (topS 5) 9) A.f_Plan_can_step A.d_Plan_can_step
  m_Plan_can_step : Meth K A.c_Plan "can_step" A.f_Plan_can_step
  F_first_stepper : Fun K "first_stepper" "first_stepper" (topS 2) A.f_first_stepper A.d_first_stepper
  g_first_stepper : mg "first_stepper" = some (.ref A.f_first_stepper)
  F_what_holds_up : Fun K "what_holds_up" "what_holds_up" (topS 3) A.f_what_holds_up A.d_what_holds_up
  g_what_holds_up : mg "what_holds_up" = some (.ref A.f_what_holds_up)
  F__law_at : Fun K "_law_at" "_law_at" (topS 16) A.f__law_at A.d__law_at
  g__law_at : mg "_law_at" = some (.ref A.f__law_at)
  F__law_wanted : Fun K "_law_wanted" "_law_wanted" (topS 17) A.f__law_wanted A.d__law_wanted
  g__law_wanted : mg "_law_wanted" = some (.ref A.f__law_wanted)
  F__law_clear : Fun K "_law_clear" "_law_clear" (topS 15) A.f__law_clear A.d__law_clear
  g__law_clear : mg "_law_clear" = some (.ref A.f__law_clear)
  F__law_hinders : Fun K "_law_hinders" "_law_hinders" (topS 18) A.f__law_hinders A.d__law_hinders
  g__law_hinders : mg "_law_hinders" = some (.ref A.f__law_hinders)
  F__law_can : Fun K "_law_can" "_law_can" (topS 19) A.f__law_can A.d__law_can
  g__law_can : mg "_law_can" = some (.ref A.f__law_can)
  F__law_holds : Fun K "_law_holds" "_law_holds" (topS 24) A.f__law_holds A.d__law_holds
  g__law_holds : mg "_law_holds" = some (.ref A.f__law_holds)
  F__law_moved : Fun K "_law_moved" "_law_moved" (topS 20) A.f__law_moved A.d__law_moved
  g__law_moved : mg "_law_moved" = some (.ref A.f__law_moved)
  F__law_outcomes : Fun K "_law_outcomes" "_law_outcomes" (topS 21) A.f__law_outcomes A.d__law_outcomes
  g__law_outcomes : mg "_law_outcomes" = some (.ref A.f__law_outcomes)
  F__law_next : Fun K "_law_next" "_law_next" (topS 25) A.f__law_next A.d__law_next
  g__law_next : mg "_law_next" = some (.ref A.f__law_next)
  F_law : Fun K "law" "law" (topS 26) A.f_law A.d_law
  g_law : mg "law" = some (.ref A.f_law)
  gc_Plan : mg "Plan" = some (.ref A.c_Plan)
  cl_Plan : Cls K A.c_Plan
  mk_Plan : Mk K A.c_Plan A.f_Plan_init
  n_Plan_flows : NoAttr K A.c_Plan "flows"
  n_Plan_starts : NoAttr K A.c_Plan "starts"
  n_Plan_blocks : NoAttr K A.c_Plan "blocks"
  z_int : mg "int" = none
  z_len : mg "len" = none
  z_list : mg "list" = none
  z_range : mg "range" = none
  z_tuple : mg "tuple" = none
variable {P : PySem.Program} {w : World} {K : PySem.W.Frag} {mg : Str → Option Value} {base : Heap} {A : Ads}
theorem sc__law_number : FnScope ["_law_script", "_law_k", "_law_cell", "_law_mixed", "_law_again"] ["_law_script", "_law_k"] (defScope (topS 7)) := ⟨rfl, rfl, rfl, by decide +kernel, rfl, by decide +kernel, by decide +kernel⟩
theorem b__law_number (T : Top K mg A) : Binds K A.d__law_number ["_law_script", "_law_k"] [] := T.F__law_number.binds (ps := ["_law_script", "_law_k"]) fun _ _ _ _ _ _ us hl => match us, hl with | [_, _], _ => rfl
def P__law_number (A : Ads) (ds : List Dt) (d : Dt) : Prop := ∃ (script : (List Int)) (k : Int) (r : Int), ds = [.lst (List.map Dt.int script), .int k] ∧ m__law_number script k = some r ∧ d = .int r
set_option maxHeartbeats 4000000 in
theorem ok__law_number (T : Top K mg A) : FnOk P A.w K mg base CX0 1 A.f__law_number A.d__law_number ["_law_script", "_law_k"] (FSpec K (RD (P__law_number A))) :=
  fn_D T.F__law_number sc__law_number (fun ds d h => by obtain ⟨script, k, r, rfl, _, _⟩ := h; rfl) fun cdv A1 outer s H E hr => ⟨_, pss_cons (ps_set (i := 2) sc__law_number.nd rfl (by first | exact Or.inl rfl | exact Or.inr rfl) (pe_int))
 (pss_cons (ps_if (pt_cmpR op_lt (pv 1) (pe_callB cr_lenS (by rfl) T.z_len bt_len (pa_cons (pv 0) (pa_nil))) (nomark _)) (pss_cons (ps_set (i := 2) sc__law_number.nd rfl (by first | exact Or.inl rfl | exact Or.inr rfl) (pe_ix ix_list (pv 0) (pv 1) (fun _ _ => rfl)))
 (pss_nil)) (pss_nil))
 (pss_cons (ps_if (pt_cmpR op_lt (pv 2) (pe_int) (nomark _)) (pss_cons (ps_set (i := 2) sc__law_number.nd rfl (by first | exact Or.inl rfl | exact Or.inr rfl) (pe_op op_sub (pe_int) (pe_op op_mulG (pe_int) (pv 2))))
 (pss_nil)) (pss_nil))
 (pss_cons (ps_if (pt_cmpR op_ge (pv 2) (pe_int) (nomark _)) (pss_cons (ps_ret (pv 2))
 (pss_nil)) (pss_nil))
 (pss_cons (ps_set (i := 3) sc__law_number.nd rfl (by first | exact Or.inl rfl | exact Or.inr rfl) (pe_op op_mod (pe_callTy cr_int (by rfl) T.z_int bt_int (pa_cons (pe_op op_add (pe_op op_mulG (pe_op op_add (pv 2) (pe_int)) (pe_int)) (pe_op op_mulG (pe_op op_add (pv 1) (pe_int)) (pe_int))) (pa_nil))) (pe_int)))
 (pss_cons (ps_set (i := 4) sc__law_number.nd rfl (by first | exact Or.inl rfl | exact Or.inr rfl) (pe_op op_mod (pe_callTy cr_int (by rfl) T.z_int bt_int (pa_cons (pe_op op_add (pe_op op_mulG (pv 3) (pe_int)) (pe_op op_mulG (pe_op op_add (pv 2) (pe_int)) (pe_op op_add (pv 1) (pe_int)))) (pa_nil))) (pe_int)))
 (pss_cons (ps_ret (pe_op op_add (pe_op op_mulG (pv 3) (pe_int)) (pv 4)))
 (pss_nil))))))), fun ds d h => by
    obtain ⟨script, k, r, rfl, h, rfl⟩ := h
    unfold m__law_number at h
    refine ⟨_, List.replicate 5 .un, sm_run (es := [.d (.lst (List.map Dt.int script)), .d (.int k), .un, .un, .un]) (oc := fun (r : Int) => .rt (.int r) (List.replicate 5 .un)) h ?_, .inl rfl⟩
    exact sm_one <|
sm_as <|
sm_lt fun cell1 h_cell1 =>
sm_set (es' := [.d (.lst (List.map Dt.int script)), .d (.int k), .d (.int cell1), .un, .un]) (ev_is (ev_int) (congrArg Dt.int h_cell1)) rfl <|
sm_as <|
sm_seq (env := fun (s : Int) => [.d (.lst (List.map Dt.int script)), .d (.int k), .d (.int s), .un, .un]) (sm_one <| sm_if (et_test (ev_lt (ev_var (i := 1) rfl) (ev_lenLm (ev_var (i := 0) rfl)))) (fun hb =>
sm_as <|
sm_bind fun t2 h_t2 =>
sm_set (es' := [.d (.lst (List.map Dt.int script)), .d (.int k), .d (.int t2), .un, .un]) (ev_ixLC (em := Dt.int) (ev_var (i := 0) rfl) (ev_var (i := 1) rfl) h_t2) rfl <|
sm_nil <|
sm_some (sev_nx (wk_e <| wk_e <| wk_e <| wk_u <| wk_u <| wk_n))) (fun hb =>
sm_nil <|
sm_some (sev_nx (wk_e <| wk_e <| wk_e <| wk_u <| wk_u <| wk_n)))) fun s3 h_s3 =>
sm_as <|
sm_seq (env := fun (s : Int) => [.d (.lst (List.map Dt.int script)), .d (.int k), .d (.int s), .un, .un]) (sm_one <| sm_if (et_test (ev_lt (ev_var (i := 2) rfl) (ev_int))) (fun hb =>
sm_as <|
sm_bind fun t4 h_t4 =>
sm_lt fun cell5 h_cell5 =>
sm_set (es' := [.d (.lst (List.map Dt.int script)), .d (.int k), .d (.int cell5), .un, .un]) (ev_is (ev_sub (ev_int) (ev_mul (ev_int) (ev_var (i := 2) rfl) h_t4)) (congrArg Dt.int h_cell5)) rfl <|
sm_nil <|
sm_some (sev_nx (wk_e <| wk_e <| wk_e <| wk_u <| wk_u <| wk_n))) (fun hb =>
sm_nil <|
sm_some (sev_nx (wk_e <| wk_e <| wk_e <| wk_u <| wk_u <| wk_n)))) fun s6 h_s6 =>
sm_as <|
sm_if (et_test (ev_ge (ev_var (i := 2) rfl) (ev_int))) (fun hb =>
sm_as <|
sm_some (sev_rt (ev_var (i := 2) rfl) (wk_uns rfl))) (fun hb =>
sm_nil <|
sm_as <|
sm_bind fun t7 h_t7 =>
sm_bind fun t8 h_t8 =>
sm_bind fun t9 h_t9 =>
sm_set (es' := [.d (.lst (List.map Dt.int script)), .d (.int k), .d (.int s6), .d (.int t9), .un]) (ev_mod (ev_intI (ev_add (ev_mul (ev_add (ev_var (i := 2) rfl) (ev_int)) (ev_int) h_t7) (ev_mul (ev_add (ev_var (i := 1) rfl) (ev_int)) (ev_int) h_t8))) (ev_int) h_t9) rfl <|
sm_as <|
sm_bind fun t10 h_t10 =>
sm_bind fun t11 h_t11 =>
sm_bind fun t12 h_t12 =>
sm_set (es' := [.d (.lst (List.map Dt.int script)), .d (.int k), .d (.int s6), .d (.int t9), .d (.int t12)]) (ev_mod (ev_intI (ev_add (ev_mul (ev_var (i := 3) rfl) (ev_int) h_t10) (ev_mul (ev_add (ev_var (i := 2) rfl) (ev_int)) (ev_add (ev_var (i := 1) rfl) (ev_int)) h_t11))) (ev_int) h_t12) rfl <|
sm_as <|
sm_bind fun t13 h_t13 =>
sm_some (sev_rt (ev_add (ev_mul (ev_var (i := 3) rfl) (ev_int) h_t13) (ev_var (i := 4) rfl)) (wk_uns rfl)))⟩
theorem sc__law_digits : FnScope ["_law_script", "_law_first", "_law_count", "_law_number_here", "_law_k"] ["_law_script", "_law_first", "_law_count"] (defScope (topS 8)) := ⟨rfl, rfl, rfl, by decide +kernel, rfl, by decide +kernel, by decide +kernel⟩
theorem b__law_digits (T : Top K mg A) : Binds K A.d__law_digits ["_law_script", "_law_first", "_law_count"] [] := T.F__law_digits.binds (ps := ["_law_script", "_law_first", "_law_count"]) fun _ _ _ _ _ _ us hl => match us, hl with | [_, _, _], _ => rfl
def P__law_digits (A : Ads) (ds : List Dt) (d : List Dt) : Prop := ∃ (script : (List Int)) (first : Int) (count : Int) (r : (List Int)), ds = [.lst (List.map Dt.int script), .int first, .int count] ∧ m__law_digits script first count = some r ∧ d = List.map Dt.int r
set_option maxHeartbeats 4000000 in
theorem ok__law_digits (T : Top K mg A) : FnOk P A.w K mg base CX0 2 A.f__law_digits A.d__law_digits ["_law_script", "_law_first", "_law_count"] (FSpecL K (P__law_digits A)) :=
  fn_L T.F__law_digits sc__law_digits (fun ds d h => by obtain ⟨script, first, count, r, rfl, _, _⟩ := h; rfl) fun cdv A1 outer s H E hr => ⟨_, pss_cons (ps_set (i := 3) sc__law_digits.nd rfl (by first | exact Or.inl rfl | exact Or.inr rfl) (pe_int))
 (pss_cons (ps_for PassesOwn.never rfl (pi_range1 (by rfl) T.z_range (pa_cons (pv 2) (pa_nil))) (pg_name (i := 4) sc__law_digits.nd rfl (by first | exact Or.inl rfl | exact Or.inr rfl)) (pss_cons (ps_set (i := 3) sc__law_digits.nd rfl (by first | exact Or.inl rfl | exact Or.inr rfl) (pe_op op_add (pe_op op_mulG (pv 3) (pe_int)) (pe_call (ok__law_number T) (hr.mono (by decide)) (by rfl) T.g__law_number T.F__law_number.kp (b__law_number T) .nil pass0 (pa_cons (pv 0) (pa_cons (pe_op op_sub (pe_op op_sub (pe_op op_add (pv 1) (pv 2)) (pe_int)) (pv 4)) (pa_nil))))))
 (pss_nil)))
 (pss_cons (ps_ret (pe_lst (pa_cons (pv 3) (pa_nil))))
 (pss_nil))), fun ds d h => by
    obtain ⟨script, first, count, r, rfl, h, rfl⟩ := h
    unfold m__law_digits at h
    refine ⟨List.replicate 5 .un, sm_run (es := [.d (.lst (List.map Dt.int script)), .d (.int first), .d (.int count), .un, .un]) (oc := fun (r : (List Int)) => .rl (List.map Dt.int r) (List.replicate 5 .un)) h ?_⟩
    exact sm_one <|
sm_as <|
sm_lt fun number_here1 h_number_here1 =>
sm_set (es' := [.d (.lst (List.map Dt.int script)), .d (.int first), .d (.int count), .d (.int number_here1), .un]) (ev_is (ev_int) (congrArg Dt.int h_number_here1)) rfl <|
sm_as <|
sm_bind fun r2 h_r2 =>
sm_seq (env := fun (s : Int) => [.d (.lst (List.map Dt.int script)), .d (.int first), .d (.int count), .d (.int s), .un]) (sm_forL (xs := r2) (em := Dt.int) (env := fun (s : Int) => [.d (.lst (List.map Dt.int script)), .d (.int first), .d (.int count), .d (.int s), .un]) (en2 := fun (k4 : Int) (s3 : Int) => [.d (.lst (List.map Dt.int script)), .d (.int first), .d (.int count), .d (.int s3), .d (.int k4)]) (ei_rng1 (ea_cons (ev_var (i := 2) rfl) (ea_nil)) h_r2) (wk_e <| wk_e <| wk_e <| wk_e <| wk_u <| wk_n) (fun k4 s3 => eg_name (vs := [4]) (by simp)) fun k4 s3 h_k4 => sm_one <|
sm_as <|
sm_bind fun t5 h_t5 =>
sm_bind fun t6 h_t6 =>
sm_lt fun number_here7 h_number_here7 =>
sm_set (es' := [.d (.lst (List.map Dt.int script)), .d (.int first), .d (.int count), .d (.int number_here7), .d (.int k4)]) (ev_is (ev_add (ev_mul (ev_var (i := 3) rfl) (ev_int) h_t5) (ev_call (ea_cons (ev_var (i := 0) rfl) (ea_cons (ev_sub (ev_sub (ev_add (ev_var (i := 1) rfl) (ev_var (i := 2) rfl)) (ev_int)) (ev_var (i := 4) rfl)) (ea_nil))) ⟨script, ((first + count) - 1) - k4, t6, rfl, h_t6, rfl⟩)) (congrArg Dt.int h_number_here7)) rfl <|
sm_nil <|
sm_some (sev_go (wk_e <| wk_e <| wk_e <| wk_e <| wk_u <| wk_n))) fun s8 h_s8 =>
sm_as <|
sm_some (sev_rtL (el_lst (ds := List.map Dt.int [s8]) (ea_cons (ev_var (i := 3) rfl) (ea_nil)) (by simp)) (wk_uns rfl))⟩
theorem sc__law_digit : FnScope ["_law_digits_here", "_law_many", "_law_value"] ["_law_digits_here", "_law_many"] (defScope (topS 9)) := ⟨rfl, rfl, rfl, by decide +kernel, rfl, by decide +kernel, by decide +kernel⟩
theorem b__law_digit (T : Top K mg A) : Binds K A.d__law_digit ["_law_digits_here", "_law_many"] [] := T.F__law_digit.binds (ps := ["_law_digits_here", "_law_many"]) fun _ _ _ _ _ _ us hl => match us, hl with | [_, _], _ => rfl
def P__law_digit (A : Ads) (xs ds : List Dt) (d : Dt) (ys : List Dt) : Prop := ∃ (digits_here : (List Int)) (many : Int) (r : (Int × List Int)), xs = List.map Dt.int digits_here ∧ ds = [.int many] ∧ m__law_digit digits_here many = some r ∧ d = .int r.1 ∧ ys = List.map Dt.int r.2
set_option maxHeartbeats 4000000 in
theorem ok__law_digit (T : Top K mg A) : FnOk P A.w K mg base CX0 1 A.f__law_digit A.d__law_digit ["_law_digits_here", "_law_many"] (FSpec K (RMu (P__law_digit A))) :=
  fn_M T.F__law_digit sc__law_digit (fun xs ds d ys h => by obtain ⟨digits_here, many, r, rfl, rfl, _⟩ := h; rfl) fun cdv A1 outer s H E hr => ⟨_, pss_cons (ps_set (i := 2) sc__law_digit.nd rfl (by first | exact Or.inl rfl | exact Or.inr rfl) (pe_op op_mod (pe_callTy cr_int (by rfl) T.z_int bt_int (pa_cons (pe_ix ix_list (pv 0) (pe_int) (fun _ _ => rfl)) (pa_nil))) (pv 1)))
 (pss_cons (ps_asg (pe_op op_fdivW (pe_callTy cr_int (by rfl) T.z_int bt_int (pa_cons (pe_ix ix_list (pv 0) (pe_int) (fun _ _ => rfl)) (pa_nil))) (pv 1)) (pg_sub (pv 0) (pe_int) set_list))
 (pss_cons (ps_ret (pv 2))
 (pss_nil))), fun p xs ds d ys h => by
    obtain ⟨digits_here, many, r, rfl, rfl, h, rfl, rfl⟩ := h
    unfold m__law_digit at h
    refine ⟨_, List.replicate 2 .un, sm_run (es := [.own (some p) (List.map Dt.int digits_here), .d (.int many), .un]) (oc := fun (r : (Int × List Int)) => .rt (.int r.1) (.own (some p) (List.map Dt.int r.2) :: List.replicate 2 .un)) h ?_, .inl rfl⟩
    exact sm_one <|
sm_as <|
sm_bind fun t1 h_t1 =>
sm_bind fun t2 h_t2 =>
sm_set (es' := [.own (some p) (List.map Dt.int digits_here), .d (.int many), .d (.int t2)]) (ev_mod (ev_intI (ev_ixOC (j := 0) (em := Dt.int) rfl (ev_int) h_t1)) (ev_var (i := 1) rfl) h_t2) rfl <|
sm_as <|
sm_bind fun t3 h_t3 =>
sm_bind fun t4 h_t4 =>
sm_bind fun digits_here5 h_digits_here5 =>
sm_setL (i := 0) (es' := [.own (some p) (List.map Dt.int digits_here5), .d (.int many), .d (.int t2)]) (em := Dt.int) rfl (ev_div (ev_intI (ev_ixOC (j := 0) (em := Dt.int) rfl (ev_int) h_t3)) (ev_var (i := 1) rfl) h_t4) (ev_int) h_digits_here5 rfl <|
sm_as <|
sm_some (sev_rt (ev_var (i := 2) rfl) (wk_e <| wk_u <| wk_u <| wk_n))⟩
theorem sc__law_step : FnScope ["_law_digits_here", "_law_index", "_law_size", "_law_signals", "_law_kind", "_law_ahead", "_law_signal"] ["_law_digits_here", "_law_index", "_law_size", "_law_signals"] (defScope (topS 10)) := ⟨rfl, rfl, rfl, by decide +kernel, rfl, by decide +kernel, by decide +kernel⟩
theorem b__law_step (T : Top K mg A) : Binds K A.d__law_step ["_law_digits_here", "_law_index", "_law_size", "_law_signals"] [] := T.F__law_step.binds (ps := ["_law_digits_here", "_law_index", "_law_size", "_law_signals"]) fun _ _ _ _ _ _ us hl => match us, hl with | [_, _, _, _], _ => rfl
def P__law_step (A : Ads) (xs ds : List Dt) (d : Dt) (ys : List Dt) : Prop := ∃ (digits_here : (List Int)) (index : Int) (size : Int) (signals : (List Str)) (r : (Stp × List Int)), xs = List.map Dt.int digits_here ∧ ds = [.int index, .int size, .lst (List.map Dt.str signals)] ∧ m__law_step digits_here index size signals = some r ∧ d = d_Stp r.1 ∧ ys = List.map Dt.int r.2
set_option maxHeartbeats 4000000 in
theorem ok__law_step (T : Top K mg A) : FnOk P A.w K mg base CX0 2 A.f__law_step A.d__law_step ["_law_digits_here", "_law_index", "_law_size", "_law_signals"] (FSpec K (RMu (P__law_step A))) :=
  fn_M T.F__law_step sc__law_step (fun xs ds d ys h => by obtain ⟨digits_here, index, size, signals, r, rfl, rfl, _⟩ := h; rfl) fun cdv A1 outer s H E hr => ⟨_, pss_cons (ps_set (i := 4) sc__law_step.nd rfl (by first | exact Or.inl rfl | exact Or.inr rfl) (pe_call (ok__law_digit T) (hr.mono (by decide)) (by rfl) T.g__law_digit T.F__law_digit.kp (b__law_digit T) .nil pass0 (pa_cons (pv 0) (pa_cons (pe_int) (pa_nil)))))
 (pss_cons (ps_set (i := 5) sc__law_step.nd rfl (by first | exact Or.inl rfl | exact Or.inr rfl) (pe_op op_add (pe_op op_add (pv 1) (pe_int)) (pe_call (ok__law_digit T) (hr.mono (by decide)) (by rfl) T.g__law_digit T.F__law_digit.kp (b__law_digit T) .nil pass0 (pa_cons (pv 0) (pa_cons (pe_op op_sub (pv 2) (pv 1)) (pa_nil))))))
 (pss_cons (ps_set (i := 6) sc__law_step.nd rfl (by first | exact Or.inl rfl | exact Or.inr rfl) (pe_ix ix_list (pv 3) (pe_call (ok__law_digit T) (hr.mono (by decide)) (by rfl) T.g__law_digit T.F__law_digit.kp (b__law_digit T) .nil pass0 (pa_cons (pv 0) (pa_cons (pe_callB cr_lenS (by rfl) T.z_len bt_len (pa_cons (pv 3) (pa_nil))) (pa_nil)))) (fun _ _ => rfl)))
 (pss_cons (ps_if (pt_cmpR op_lt (pv 4) (pe_int) (nomark _)) (pss_cons (ps_ret (pe_tup (pa_cons (pe_str) (pa_cons (pe_ix ix_list (pe_lst (pa_cons (pe_str) (pa_cons (pe_str) (pa_nil)))) (pe_call (ok__law_digit T) (hr.mono (by decide)) (by rfl) T.g__law_digit T.F__law_digit.kp (b__law_digit T) .nil pass0 (pa_cons (pv 0) (pa_cons (pe_int) (pa_nil)))) (fun _ _ => rfl)) (pa_nil)))))
 (pss_nil)) (pss_nil))
 (pss_cons (ps_if (pt_cmpR op_eq (pv 4) (pe_int) (nomark _)) (pss_cons (ps_ret (pe_tup (pa_cons (pe_str) (pa_cons (pe_ix ix_list (pe_lst (pa_cons (pe_non) (pa_cons (pe_str) (pa_nil)))) (pe_call (ok__law_digit T) (hr.mono (by decide)) (by rfl) T.g__law_digit T.F__law_digit.kp (b__law_digit T) .nil pass0 (pa_cons (pv 0) (pa_cons (pe_int) (pa_nil)))) (fun _ _ => rfl)) (pa_nil)))))
 (pss_nil)) (pss_nil))
 (pss_cons (ps_if (pt_cmpR op_eq (pv 4) (pe_int) (nomark _)) (pss_cons (ps_ret (pe_tup (pa_cons (pe_str) (pa_cons (pv 6) (pa_cons (pe_cmpR op_gt (pe_call (ok__law_digit T) (hr.mono (by decide)) (by rfl) T.g__law_digit T.F__law_digit.kp (b__law_digit T) .nil pass0 (pa_cons (pv 0) (pa_cons (pe_int) (pa_nil)))) (pe_int) (nomark _)) (pa_nil))))))
 (pss_nil)) (pss_nil))
 (pss_cons (ps_if (pt_cmpR op_eq (pv 4) (pe_int) (nomark _)) (pss_cons (ps_ret (pe_tup (pa_cons (pe_str) (pa_cons (pv 6) (pa_cons (pe_cmpR op_gt (pe_call (ok__law_digit T) (hr.mono (by decide)) (by rfl) T.g__law_digit T.F__law_digit.kp (b__law_digit T) .nil pass0 (pa_cons (pv 0) (pa_cons (pe_int) (pa_nil)))) (pe_int) (nomark _)) (pa_nil))))))
 (pss_nil)) (pss_nil))
 (pss_cons (ps_if (pt_cmpR op_eq (pv 4) (pe_int) (nomark _)) (pss_cons (ps_ret (pe_tup (pa_cons (pe_str) (pa_cons (pv 5) (pa_nil)))))
 (pss_nil)) (pss_nil))
 (pss_cons (ps_if (pt_cmpR op_eq (pv 4) (pe_int) (nomark _)) (pss_cons (ps_ret (pe_tup (pa_cons (pe_str) (pa_cons (pe_str) (pa_cons (pv 5) (pa_nil))))))
 (pss_nil)) (pss_nil))
 (pss_cons (ps_ret (pe_tup (pa_cons (pe_str) (pa_cons (pe_ix ix_list (pe_lst (pa_cons (pe_str) (pa_cons (pe_str) (pa_nil)))) (pe_op op_mod (pv 1) (pe_int)) (fun _ _ => rfl)) (pa_nil)))))
 (pss_nil)))))))))), fun p xs ds d ys h => by
    obtain ⟨digits_here, index, size, signals, r, rfl, rfl, h, rfl, rfl⟩ := h
    unfold m__law_step at h
    refine ⟨_, List.replicate 6 .un, sm_run (es := [.own (some p) (List.map Dt.int digits_here), .d (.int index), .d (.int size), .d (.lst (List.map Dt.str signals)), .un, .un, .un]) (oc := fun (r : (Stp × List Int)) => .rt (d_Stp r.1) (.own (some p) (List.map Dt.int r.2) :: List.replicate 6 .un)) h ?_, .inl rfl⟩
    exact sm_one <|
sm_as <|
sm_bind fun t1 h_t1 =>
sm_setM (es' := [.own (some p) (List.map Dt.int t1.2), .d (.int index), .d (.int size), .d (.lst (List.map Dt.str signals)), .d (.int t1.1), .un, .un]) (evm_callM (P := P__law_digit A) (i := 0) rfl (eam_cons (evm_of (ev_int)) (eam_nil)) rfl ⟨digits_here, 9, t1, rfl, rfl, h_t1, rfl, rfl⟩ (es' := [.own (some p) (List.map Dt.int t1.2), .d (.int index), .d (.int size), .d (.lst (List.map Dt.str signals)), .un, .un, .un]) rfl) rfl <|
sm_as <|
sm_bind fun t2 h_t2 =>
sm_setM (es' := [.own (some p) (List.map Dt.int t2.2), .d (.int index), .d (.int size), .d (.lst (List.map Dt.str signals)), .d (.int t1.1), .d (.int ((index + 1) + t2.1)), .un]) (evm_op (evm_of (ev_add (ev_var (i := 1) rfl) (ev_int))) (evm_callM (P := P__law_digit A) (i := 0) rfl (eam_cons (evm_of (ev_sub (ev_var (i := 2) rfl) (ev_var (i := 1) rfl))) (eam_nil)) rfl ⟨t1.2, size - index, t2, rfl, rfl, h_t2, rfl, rfl⟩ (es' := [.own (some p) (List.map Dt.int t2.2), .d (.int index), .d (.int size), .d (.lst (List.map Dt.str signals)), .d (.int t1.1), .un, .un]) rfl) (r2_of (ev_add (ev_var (i := 0) rfl) (ev_var (i := 1) rfl)))) rfl <|
sm_as <|
sm_bind fun t3 h_t3 =>
sm_bind fun t4 h_t4 =>
sm_setM (es' := [.own (some p) (List.map Dt.int t3.2), .d (.int index), .d (.int size), .d (.lst (List.map Dt.str signals)), .d (.int t1.1), .d (.int ((index + 1) + t2.1)), .d (.str t4)]) (evm_op (evm_of (ev_var (i := 3) rfl)) (evm_callM (P := P__law_digit A) (i := 0) rfl (eam_cons (evm_of (ev_lenLm (ev_var (i := 3) rfl))) (eam_nil)) rfl ⟨t2.2, (signals.length : Int), t3, rfl, rfl, h_t3, rfl, rfl⟩ (es' := [.own (some p) (List.map Dt.int t3.2), .d (.int index), .d (.int size), .d (.lst (List.map Dt.str signals)), .d (.int t1.1), .d (.int ((index + 1) + t2.1)), .un]) rfl) (r2_of (ev_ixLC (em := Dt.str) (ev_var (i := 0) rfl) (ev_var (i := 1) rfl) h_t4))) rfl <|
sm_as <|
sm_if (et_test (ev_lt (ev_var (i := 4) rfl) (ev_int))) (fun hb =>
sm_as <|
sm_bind fun t5 h_t5 =>
sm_bind fun t6 h_t6 =>
sm_some (sev_rtM (evm_is (evm_tup (eam_cons (evm_of (ev_str)) (eam_cons (evm_op (evm_of (ev_new (el_lst (ea_cons (ev_str) (ea_cons (ev_str) (ea_nil))) (by simp)))) (evm_callM (P := P__law_digit A) (i := 0) rfl (eam_cons (evm_of (ev_int)) (eam_nil)) rfl ⟨t3.2, 2, t5, rfl, rfl, h_t5, rfl, rfl⟩ (es' := [.own (some p) (List.map Dt.int t5.2), .d (.int index), .d (.int size), .d (.lst (List.map Dt.str signals)), .d (.int t1.1), .d (.int ((index + 1) + t2.1)), .d (.str t4)]) rfl) (r2_of (ev_ixLC (em := Dt.str) (xs := [("p" : Str), ("q" : Str)]) (ev_var (i := 0) rfl) (ev_var (i := 1) rfl) h_t6))) (eam_nil))) (by simp)) rfl) (wk_e <| wk_u <| wk_u <| wk_u <| wk_u <| wk_u <| wk_u <| wk_n))) (fun hb =>
sm_nil <|
sm_as <|
sm_if (et_test (ev_eqI (ev_var (i := 4) rfl) (ev_int))) (fun hb =>
sm_as <|
sm_bind fun t7 h_t7 =>
sm_bind fun t8 h_t8 =>
sm_some (sev_rtM (evm_is (evm_tup (eam_cons (evm_of (ev_str)) (eam_cons (evm_op (evm_of (ev_is (ev_new (el_lst (ea_cons (ev_non) (ea_cons (ev_str) (ea_nil))) (by simp))) rfl)) (evm_callM (P := P__law_digit A) (i := 0) rfl (eam_cons (evm_of (ev_int)) (eam_nil)) rfl ⟨t3.2, 2, t7, rfl, rfl, h_t7, rfl, rfl⟩ (es' := [.own (some p) (List.map Dt.int t7.2), .d (.int index), .d (.int size), .d (.lst (List.map Dt.str signals)), .d (.int t1.1), .d (.int ((index + 1) + t2.1)), .d (.str t4)]) rfl) (r2_of (ev_ixLC (em := (dO Dt.str)) (ev_var (i := 0) rfl) (ev_var (i := 1) rfl) h_t8))) (eam_nil))) (by simp)) rfl) (wk_e <| wk_u <| wk_u <| wk_u <| wk_u <| wk_u <| wk_u <| wk_n))) (fun hb =>
sm_nil <|
sm_as <|
sm_if (et_test (ev_eqI (ev_var (i := 4) rfl) (ev_int))) (fun hb =>
sm_as <|
sm_bind fun t9 h_t9 =>
sm_some (sev_rtM (evm_is (evm_tup (eam_cons (evm_of (ev_str)) (eam_cons (evm_of (ev_var (i := 6) rfl)) (eam_cons (evm_op (evm_callM (P := P__law_digit A) (i := 0) rfl (eam_cons (evm_of (ev_int)) (eam_nil)) rfl ⟨t3.2, 4, t9, rfl, rfl, h_t9, rfl, rfl⟩ (es' := [.own (some p) (List.map Dt.int t9.2), .d (.int index), .d (.int size), .d (.lst (List.map Dt.str signals)), .d (.int t1.1), .d (.int ((index + 1) + t2.1)), .d (.str t4)]) rfl) (evm_of (ev_int)) (r2_of (ev_gt (ev_var (i := 0) rfl) (ev_var (i := 1) rfl)))) (eam_nil)))) (by simp)) rfl) (wk_e <| wk_u <| wk_u <| wk_u <| wk_u <| wk_u <| wk_u <| wk_n))) (fun hb =>
sm_nil <|
sm_as <|
sm_if (et_test (ev_eqI (ev_var (i := 4) rfl) (ev_int))) (fun hb =>
sm_as <|
sm_bind fun t10 h_t10 =>
sm_some (sev_rtM (evm_is (evm_tup (eam_cons (evm_of (ev_str)) (eam_cons (evm_of (ev_var (i := 6) rfl)) (eam_cons (evm_op (evm_callM (P := P__law_digit A) (i := 0) rfl (eam_cons (evm_of (ev_int)) (eam_nil)) rfl ⟨t3.2, 4, t10, rfl, rfl, h_t10, rfl, rfl⟩ (es' := [.own (some p) (List.map Dt.int t10.2), .d (.int index), .d (.int size), .d (.lst (List.map Dt.str signals)), .d (.int t1.1), .d (.int ((index + 1) + t2.1)), .d (.str t4)]) rfl) (evm_of (ev_int)) (r2_of (ev_gt (ev_var (i := 0) rfl) (ev_var (i := 1) rfl)))) (eam_nil)))) (by simp)) rfl) (wk_e <| wk_u <| wk_u <| wk_u <| wk_u <| wk_u <| wk_u <| wk_n))) (fun hb =>
sm_nil <|
sm_as <|
sm_if (et_test (ev_eqI (ev_var (i := 4) rfl) (ev_int))) (fun hb =>
sm_as <|
sm_some (sev_rt (ev_is (ev_tup (ea_cons (ev_str) (ea_cons (ev_var (i := 5) rfl) (ea_nil))) (by simp)) rfl) (wk_e <| wk_u <| wk_u <| wk_u <| wk_u <| wk_u <| wk_u <| wk_n))) (fun hb =>
sm_nil <|
sm_as <|
sm_if (et_test (ev_eqI (ev_var (i := 4) rfl) (ev_int))) (fun hb =>
sm_as <|
sm_some (sev_rt (ev_is (ev_tup (ea_cons (ev_str) (ea_cons (ev_str) (ea_cons (ev_var (i := 5) rfl) (ea_nil)))) (by simp)) rfl) (wk_e <| wk_u <| wk_u <| wk_u <| wk_u <| wk_u <| wk_u <| wk_n))) (fun hb =>
sm_nil <|
sm_as <|
sm_bind fun t11 h_t11 =>
sm_bind fun t12 h_t12 =>
sm_some (sev_rt (ev_is (ev_tup (ea_cons (ev_str) (ea_cons (ev_ixLC (em := Dt.str) (xs := [("q" : Str), ("p" : Str)]) (ev_new (el_lst (ea_cons (ev_str) (ea_cons (ev_str) (ea_nil))) (by simp))) (ev_mod (ev_var (i := 1) rfl) (ev_int) h_t11) h_t12) (ea_nil))) (by simp)) rfl) (wk_e <| wk_u <| wk_u <| wk_u <| wk_u <| wk_u <| wk_u <| wk_n))))))))⟩
theorem sc__law_place : FnScope ["_law_digits_here", "_law_point", "_law_held"] ["_law_digits_here"] (defScope (topS 11)) := ⟨rfl, rfl, rfl, by decide +kernel, rfl, by decide +kernel, by decide +kernel⟩
theorem b__law_place (T : Top K mg A) : Binds K A.d__law_place ["_law_digits_here"] [] := T.F__law_place.binds (ps := ["_law_digits_here"]) fun _ _ _ _ _ _ us hl => match us, hl with | [_], _ => rfl
def P__law_place (A : Ads) (xs ds : List Dt) (d : Dt) (ys : List Dt) : Prop := ∃ (digits_here : (List Int)) (r : (Plc × List Int)), xs = List.map Dt.int digits_here ∧ ds = [] ∧ m__law_place digits_here = some r ∧ d = d_Plc r.1 ∧ ys = List.map Dt.int r.2
set_option maxHeartbeats 4000000 in
theorem ok__law_place (T : Top K mg A) : FnOk P A.w K mg base CX0 2 A.f__law_place A.d__law_place ["_law_digits_here"] (FSpec K (RMu (P__law_place A))) :=
  fn_M T.F__law_place sc__law_place (fun xs ds d ys h => by obtain ⟨digits_here, r, rfl, rfl, _⟩ := h; rfl) fun cdv A1 outer s H E hr => ⟨_, pss_cons (ps_set (i := 1) sc__law_place.nd rfl (by first | exact Or.inl rfl | exact Or.inr rfl) (pe_ix ix_list (pe_lst (pa_cons (pe_str) (pa_cons (pe_str) (pa_nil)))) (pe_call (ok__law_digit T) (hr.mono (by decide)) (by rfl) T.g__law_digit T.F__law_digit.kp (b__law_digit T) .nil pass0 (pa_cons (pv 0) (pa_cons (pe_int) (pa_nil)))) (fun _ _ => rfl)))
 (pss_cons (ps_set (i := 2) sc__law_place.nd rfl (by first | exact Or.inl rfl | exact Or.inr rfl) (pe_ix ix_list (pe_lst (pa_cons (pe_non) (pa_cons (pe_str) (pa_nil)))) (pe_call (ok__law_digit T) (hr.mono (by decide)) (by rfl) T.g__law_digit T.F__law_digit.kp (b__law_digit T) .nil pass0 (pa_cons (pv 0) (pa_cons (pe_int) (pa_nil)))) (fun _ _ => rfl)))
 (pss_cons (ps_if (pt_cmpR op_eq (pe_call (ok__law_digit T) (hr.mono (by decide)) (by rfl) T.g__law_digit T.F__law_digit.kp (b__law_digit T) .nil pass0 (pa_cons (pv 0) (pa_cons (pe_int) (pa_nil)))) (pe_int) (nomark _)) (pss_cons (ps_ret (pe_tup (pa_cons (pe_str) (pa_cons (pv 1) (pa_cons (pv 2) (pa_nil))))))
 (pss_nil)) (pss_nil))
 (pss_cons (ps_ret (pe_tup (pa_cons (pe_str) (pa_cons (pv 1) (pa_cons (pe_ix ix_list (pe_lst (pa_cons (pe_str) (pa_cons (pe_str) (pa_nil)))) (pe_call (ok__law_digit T) (hr.mono (by decide)) (by rfl) T.g__law_digit T.F__law_digit.kp (b__law_digit T) .nil pass0 (pa_cons (pv 0) (pa_cons (pe_int) (pa_nil)))) (fun _ _ => rfl)) (pa_cons (pv 2) (pa_nil)))))))
 (pss_nil)))), fun p xs ds d ys h => by
    obtain ⟨digits_here, r, rfl, rfl, h, rfl, rfl⟩ := h
    unfold m__law_place at h
    refine ⟨_, List.replicate 2 .un, sm_run (es := [.own (some p) (List.map Dt.int digits_here), .un, .un]) (oc := fun (r : (Plc × List Int)) => .rt (d_Plc r.1) (.own (some p) (List.map Dt.int r.2) :: List.replicate 2 .un)) h ?_, .inl rfl⟩
    exact sm_one <|
sm_as <|
sm_bind fun t1 h_t1 =>
sm_bind fun t2 h_t2 =>
sm_setM (es' := [.own (some p) (List.map Dt.int t1.2), .d (.str t2), .un]) (evm_op (evm_of (ev_new (el_lst (ea_cons (ev_str) (ea_cons (ev_str) (ea_nil))) (by simp)))) (evm_callM (P := P__law_digit A) (i := 0) rfl (eam_cons (evm_of (ev_int)) (eam_nil)) rfl ⟨digits_here, 2, t1, rfl, rfl, h_t1, rfl, rfl⟩ (es' := [.own (some p) (List.map Dt.int t1.2), .un, .un]) rfl) (r2_of (ev_ixLC (em := Dt.str) (xs := [("p" : Str), ("q" : Str)]) (ev_var (i := 0) rfl) (ev_var (i := 1) rfl) h_t2))) rfl <|
sm_as <|
sm_bind fun t3 h_t3 =>
sm_bind fun t4 h_t4 =>
sm_setM (es' := [.own (some p) (List.map Dt.int t3.2), .d (.str t2), .d ((dO Dt.str) t4)]) (evm_op (evm_of (ev_is (ev_new (el_lst (ea_cons (ev_non) (ea_cons (ev_str) (ea_nil))) (by simp))) rfl)) (evm_callM (P := P__law_digit A) (i := 0) rfl (eam_cons (evm_of (ev_int)) (eam_nil)) rfl ⟨t1.2, 2, t3, rfl, rfl, h_t3, rfl, rfl⟩ (es' := [.own (some p) (List.map Dt.int t3.2), .d (.str t2), .un]) rfl) (r2_of (ev_ixLC (em := (dO Dt.str)) (ev_var (i := 0) rfl) (ev_var (i := 1) rfl) h_t4))) rfl <|
sm_as <|
sm_bind fun t5 h_t5 =>
sm_ifM (etm_test (evm_op (evm_callM (P := P__law_digit A) (i := 0) rfl (eam_cons (evm_of (ev_int)) (eam_nil)) rfl ⟨t3.2, 2, t5, rfl, rfl, h_t5, rfl, rfl⟩ (es' := [.own (some p) (List.map Dt.int t5.2), .d (.str t2), .d ((dO Dt.str) t4)]) rfl) (evm_of (ev_int)) (r2_of (ev_eqI (ev_var (i := 0) rfl) (ev_var (i := 1) rfl))))) (fun hb =>
sm_as <|
sm_some (sev_rt (ev_is (ev_tup (ea_cons (ev_str) (ea_cons (ev_var (i := 1) rfl) (ea_cons (ev_var (i := 2) rfl) (ea_nil)))) (by simp)) rfl) (wk_e <| wk_u <| wk_u <| wk_n))) (fun hb =>
sm_nil <|
sm_as <|
sm_bind fun t6 h_t6 =>
sm_bind fun t7 h_t7 =>
sm_some (sev_rtM (evm_is (evm_tup (eam_cons (evm_of (ev_str)) (eam_cons (evm_of (ev_var (i := 1) rfl)) (eam_cons (evm_op (evm_of (ev_new (el_lst (ea_cons (ev_str) (ea_cons (ev_str) (ea_nil))) (by simp)))) (evm_callM (P := P__law_digit A) (i := 0) rfl (eam_cons (evm_of (ev_int)) (eam_nil)) rfl ⟨t5.2, 2, t6, rfl, rfl, h_t6, rfl, rfl⟩ (es' := [.own (some p) (List.map Dt.int t6.2), .d (.str t2), .d ((dO Dt.str) t4)]) rfl) (r2_of (ev_ixLC (em := Dt.str) (xs := [("p" : Str), ("q" : Str)]) (ev_var (i := 0) rfl) (ev_var (i := 1) rfl) h_t7))) (eam_cons (evm_of (ev_var (i := 2) rfl)) (eam_nil))))) (by simp)) rfl) (wk_e <| wk_u <| wk_u <| wk_n)))⟩
theorem sc__law_plan : FnScope ["_law_digits_here", "_law_arms", "_law_most", "_law_signals", "_law_flows", "_law_arm", "_law_size", "_law_index", "_law_starts", "_law_blocked", "_law_k", "_law_other", "_law_place_here"] ["_law_digits_here"] (defScope (topS 12)) := ⟨rfl, rfl, rfl, by decide +kernel, rfl, by decide +kernel, by decide +kernel⟩
theorem b__law_plan (T : Top K mg A) : Binds K A.d__law_plan ["_law_digits_here"] [] := T.F__law_plan.binds (ps := ["_law_digits_here"]) fun _ _ _ _ _ _ us hl => match us, hl with | [_], _ => rfl
def P__law_plan (A : Ads) (xs ds : List Dt) (d : Dt) (ys : List Dt) : Prop := ∃ (digits_here : (List Int)) (r : (((List (List Stp)) × (List Str) × (List (Int × Plc × Int × Plc))) × List Int)), xs = List.map Dt.int digits_here ∧ ds = [] ∧ m__law_plan digits_here = some r ∧ d = (dT3 (dL (dL d_Stp)) (dL Dt.str) (dL (dT4 Dt.int d_Plc Dt.int d_Plc))) r.1 ∧ ys = List.map Dt.int r.2
set_option maxHeartbeats 4000000 in
theorem ok__law_plan (T : Top K mg A) : FnOk P A.w K mg base CX0 3 A.f__law_plan A.d__law_plan ["_law_digits_here"] (FSpec K (RMu (P__law_plan A))) :=
  fn_M T.F__law_plan sc__law_plan (fun xs ds d ys h => by obtain ⟨digits_here, r, rfl, rfl, _⟩ := h; rfl) fun cdv A1 outer s H E hr => ⟨_, pss_cons (ps_set (i := 1) sc__law_plan.nd rfl (by first | exact Or.inl rfl | exact Or.inr rfl) (pe_ix ix_list (pe_lst (pa_cons (pe_int) (pa_cons (pe_int) (pa_cons (pe_int) (pa_cons (pe_int) (pa_cons (pe_int) (pa_cons (pe_int) (pa_cons (pe_int) (pa_nil))))))))) (pe_call (ok__law_digit T) (hr.mono (by decide)) (by rfl) T.g__law_digit T.F__law_digit.kp (b__law_digit T) .nil pass0 (pa_cons (pv 0) (pa_cons (pe_int) (pa_nil)))) (fun _ _ => rfl)))
 (pss_cons (ps_set (i := 2) sc__law_plan.nd rfl (by first | exact Or.inl rfl | exact Or.inr rfl) (pe_ix ix_list (pe_lst (pa_cons (pe_int) (pa_cons (pe_int) (pa_cons (pe_int) (pa_cons (pe_int) (pa_cons (pe_int) (pa_nil))))))) (pv 1) (fun _ _ => rfl)))
 (pss_cons (ps_set (i := 3) sc__law_plan.nd rfl (by first | exact Or.inl rfl | exact Or.inr rfl) (pe_lst (pa_cons (pe_str) (pa_cons (pe_str) (pa_nil)))))
 (pss_cons (ps_if (pt_cmpR op_gt (pv 1) (pe_int) (nomark _)) (pss_cons (ps_set (i := 3) sc__law_plan.nd rfl (by first | exact Or.inl rfl | exact Or.inr rfl) (pe_lst (pa_cons (pe_str) (pa_nil))))
 (pss_nil)) (pss_nil))
 (pss_cons (ps_set (i := 4) sc__law_plan.nd rfl (by first | exact Or.inl rfl | exact Or.inr rfl) (pe_lst (pa_nil)))
 (pss_cons (ps_for PassesOwn.never rfl (pi_range1 (by rfl) T.z_range (pa_cons (pv 1) (pa_nil))) (pg_name (i := 5) sc__law_plan.nd rfl (by first | exact Or.inl rfl | exact Or.inr rfl)) (pss_cons (ps_set (i := 6) sc__law_plan.nd rfl (by first | exact Or.inl rfl | exact Or.inr rfl) (pe_op op_sub (pv 2) (pe_op op_mod (pe_call (ok__law_digit T) (hr.mono (by decide)) (by rfl) T.g__law_digit T.F__law_digit.kp (b__law_digit T) .nil pass0 (pa_cons (pv 0) (pa_cons (pe_op op_add (pv 2) (pe_int)) (pa_nil)))) (pe_int))))
 (pss_cons (ps_expr (pe_bm PySem.F.plainAttrs_list PySem.F.slot_list_append PySem.F.type_list_append mt_append (pv 4) (pa_cons (pe_lc (own := [("_law_index", 7)]) (g := gName 7) (tt := tYes) rfl sc__law_plan.nd (pi_range1 (by rfl) T.z_range (pa_cons (pv 6) (pa_nil))) (blkOk_by (N := ["_law_digits_here", "_law_arms", "_law_most", "_law_signals", "_law_flows", "_law_arm", "_law_size", "_law_index", "_law_starts", "_law_blocked", "_law_k", "_law_other", "_law_place_here"]) (sc := defScope (topS 12)) (by decide +kernel)) (fun _ _ _ _ _ => pg_name (i := 7) sc__law_plan.nd rfl (by first | exact Or.inl rfl | exact Or.inr rfl)) (fun _ _ _ _ _ => pts_nil) (fun _ _ _ _ _ => pe_call (ok__law_step T) (hr.mono (by decide)) (by rfl) T.g__law_step T.F__law_step.kp (b__law_step T) .nil pass0 (pa_cons (pv 0) (pa_cons (pv 7) (pa_cons (pv 6) (pa_cons (pv 3) (pa_nil))))))) pa_nil)))
 (pss_nil))))
 (pss_cons (ps_setLc (i := 8) (own := [("_law_arm", 5)]) (g := gName 5) (tt := tYes) rfl sc__law_plan.nd rfl rfl (sw_true rfl rfl rfl (by decide +kernel)) (pi_range1 (by rfl) T.z_range (pa_cons (pv 1) (pa_nil))) (blkOk_by (N := ["_law_digits_here", "_law_arms", "_law_most", "_law_signals", "_law_flows", "_law_arm", "_law_size", "_law_index", "_law_starts", "_law_blocked", "_law_k", "_law_other", "_law_place_here"]) (sc := defScope (topS 12)) (by decide +kernel)) (fun _ _ _ _ _ => pg_name (i := 5) sc__law_plan.nd rfl (by first | exact Or.inl rfl | exact Or.inr rfl)) (fun _ _ _ _ _ => pts_nil) (fun _ _ _ _ _ => pe_ix ix_list (pe_lst (pa_cons (pe_str) (pa_cons (pe_str) (pa_nil)))) (pe_call (ok__law_digit T) (hr.mono (by decide)) (by rfl) T.g__law_digit T.F__law_digit.kp (b__law_digit T) .nil pass0 (pa_cons (pv 0) (pa_cons (pe_int) (pa_nil)))) (fun _ _ => rfl)))
 (pss_cons (ps_set (i := 9) sc__law_plan.nd rfl (by first | exact Or.inl rfl | exact Or.inr rfl) (pe_lst (pa_nil)))
 (pss_cons (ps_for PassesOwn.never rfl (pi_range1 (by rfl) T.z_range (pa_cons (pe_call (ok__law_digit T) (hr.mono (by decide)) (by rfl) T.g__law_digit T.F__law_digit.kp (b__law_digit T) .nil pass0 (pa_cons (pv 0) (pa_cons (pe_int) (pa_nil)))) pa_nil)) (pg_name (i := 10) sc__law_plan.nd rfl (by first | exact Or.inl rfl | exact Or.inr rfl)) (pss_cons (ps_set (i := 5) sc__law_plan.nd rfl (by first | exact Or.inl rfl | exact Or.inr rfl) (pe_call (ok__law_digit T) (hr.mono (by decide)) (by rfl) T.g__law_digit T.F__law_digit.kp (b__law_digit T) .nil pass0 (pa_cons (pv 0) (pa_cons (pv 1) (pa_nil)))))
 (pss_cons (ps_set (i := 11) sc__law_plan.nd rfl (by first | exact Or.inl rfl | exact Or.inr rfl) (pe_call (ok__law_digit T) (hr.mono (by decide)) (by rfl) T.g__law_digit T.F__law_digit.kp (b__law_digit T) .nil pass0 (pa_cons (pv 0) (pa_cons (pv 1) (pa_nil)))))
 (pss_cons (ps_set (i := 12) sc__law_plan.nd rfl (by first | exact Or.inl rfl | exact Or.inr rfl) (pe_call (ok__law_place T) (hr.mono (by decide)) (by rfl) T.g__law_place T.F__law_place.kp (b__law_place T) .nil pass0 (pa_cons (pv 0) (pa_nil))))
 (pss_cons (ps_if (pt_cmpR op_ne (pv 5) (pv 11) (nomark _)) (pss_cons (ps_expr (pe_bm PySem.F.plainAttrs_list PySem.F.slot_list_append PySem.F.type_list_append mt_append (pv 9) (pa_cons (pe_tup (pa_cons (pv 5) (pa_cons (pv 12) (pa_cons (pv 11) (pa_cons (pe_call (ok__law_place T) (hr.mono (by decide)) (by rfl) T.g__law_place T.F__law_place.kp (b__law_place T) .nil pass0 (pa_cons (pv 0) (pa_nil))) (pa_nil)))))) pa_nil)))
 (pss_nil)) (pss_nil))
 (pss_nil))))))
 (pss_cons (ps_ret (pe_tup (pa_cons (pv 4) (pa_cons (pv 8) (pa_cons (pv 9) (pa_nil))))))
 (pss_nil)))))))))), fun p xs ds d ys h => by
    obtain ⟨digits_here, r, rfl, rfl, h, rfl, rfl⟩ := h
    unfold m__law_plan at h
    refine ⟨_, List.replicate 12 .un, sm_run (es := [.own (some p) (List.map Dt.int digits_here), .un, .un, .un, .un, .un, .un, .un, .un, .un, .un, .un, .un]) (oc := fun (r : (((List (List Stp)) × (List Str) × (List (Int × Plc × Int × Plc))) × List Int)) => .rt ((dT3 (dL (dL d_Stp)) (dL Dt.str) (dL (dT4 Dt.int d_Plc Dt.int d_Plc))) r.1) (.own (some p) (List.map Dt.int r.2) :: List.replicate 12 .un)) h ?_, .inl rfl⟩
    exact sm_one <|
sm_as <|
sm_bind fun t1 h_t1 =>
sm_bind fun t2 h_t2 =>
sm_setM (es' := [.own (some p) (List.map Dt.int t1.2), .d (.int t2), .un, .un, .un, .un, .un, .un, .un, .un, .un, .un, .un]) (evm_op (evm_of (ev_new (el_lst (ea_cons (ev_int) (ea_cons (ev_int) (ea_cons (ev_int) (ea_cons (ev_int) (ea_cons (ev_int) (ea_cons (ev_int) (ea_cons (ev_int) (ea_nil)))))))) (by simp)))) (evm_callM (P := P__law_digit A) (i := 0) rfl (eam_cons (evm_of (ev_int)) (eam_nil)) rfl ⟨digits_here, 7, t1, rfl, rfl, h_t1, rfl, rfl⟩ (es' := [.own (some p) (List.map Dt.int t1.2), .un, .un, .un, .un, .un, .un, .un, .un, .un, .un, .un, .un]) rfl) (r2_of (ev_ixLC (em := Dt.int) (xs := [2, 3, 2, 1, 2, 3, 4]) (ev_var (i := 0) rfl) (ev_var (i := 1) rfl) h_t2))) rfl <|
sm_as <|
sm_bind fun t3 h_t3 =>
sm_set (es' := [.own (some p) (List.map Dt.int t1.2), .d (.int t2), .d (.int t3), .un, .un, .un, .un, .un, .un, .un, .un, .un, .un]) (ev_ixLC (em := Dt.int) (xs := [0, 8, 5, 2, 1]) (ev_new (el_lst (ea_cons (ev_int) (ea_cons (ev_int) (ea_cons (ev_int) (ea_cons (ev_int) (ea_cons (ev_int) (ea_nil)))))) (by simp))) (ev_var (i := 1) rfl) h_t3) rfl <|
sm_as <|
sm_lt fun signals4 h_signals4 =>
sm_set (es' := [.own (some p) (List.map Dt.int t1.2), .d (.int t2), .d (.int t3), .d ((dF2 Dt.str Dt.str) signals4), .un, .un, .un, .un, .un, .un, .un, .un, .un]) (ev_is (ev_new (el_lst (ea_cons (ev_str) (ea_cons (ev_str) (ea_nil))) (by simp))) (congrArg (dF2 Dt.str Dt.str) h_signals4)) rfl <|
sm_as <|
sm_seq (env := fun (s : (List Str)) => [.own (some p) (List.map Dt.int t1.2), .d (.int t2), .d (.int t3), .d (.lst (List.map Dt.str s)), .un, .un, .un, .un, .un, .un, .un, .un, .un]) (sm_one <| sm_if (et_test (ev_gt (ev_var (i := 1) rfl) (ev_int))) (fun hb =>
sm_as <|
sm_lt fun signals5 h_signals5 =>
sm_set (es' := [.own (some p) (List.map Dt.int t1.2), .d (.int t2), .d (.int t3), .d ((dF1 Dt.str) signals5), .un, .un, .un, .un, .un, .un, .un, .un, .un]) (ev_is (ev_new (el_lst (ea_cons (ev_str) (ea_nil)) (by simp))) (congrArg (dF1 Dt.str) h_signals5)) rfl <|
sm_nil <|
sm_some (sev_nx (wk_e <| wk_e <| wk_e <| wk_e <| wk_u <| wk_u <| wk_u <| wk_u <| wk_u <| wk_u <| wk_u <| wk_u <| wk_u <| wk_n))) (fun hb =>
sm_nil <|
sm_some (sev_nx (wk_e <| wk_e <| wk_e <| wk_e <| wk_u <| wk_u <| wk_u <| wk_u <| wk_u <| wk_u <| wk_u <| wk_u <| wk_u <| wk_n)))) fun s6 h_s6 =>
sm_as <|
sm_lt fun flows7 h_flows7 =>
sm_own (es' := [.own (some p) (List.map Dt.int t1.2), .d (.int t2), .d (.int t3), .d (.lst (List.map Dt.str s6)), .own none (List.map (dL d_Stp) flows7), .un, .un, .un, .un, .un, .un, .un, .un]) (el_is (el_lst (ds := List.map (dL d_Stp) []) (ea_nil) (by simp)) (congrArg (List.map (dL d_Stp)) h_flows7)) rfl <|
sm_as <|
sm_bind fun r8 h_r8 =>
sm_seq (env := fun (s : (List (List Stp)) × (List Int)) => [.own (some p) (List.map Dt.int s.2), .d (.int t2), .d (.int t3), .d (.lst (List.map Dt.str s6)), .own none (List.map (dL d_Stp) s.1), .un, .un, .un, .un, .un, .un, .un, .un]) (sm_forL (xs := r8) (em := Dt.int) (env := fun (s : (List (List Stp)) × (List Int)) => [.own (some p) (List.map Dt.int s.2), .d (.int t2), .d (.int t3), .d (.lst (List.map Dt.str s6)), .own none (List.map (dL d_Stp) s.1), .un, .un, .un, .un, .un, .un, .un, .un]) (en2 := fun (arm10 : Int) (s9 : (List (List Stp)) × (List Int)) => [.own (some p) (List.map Dt.int s9.2), .d (.int t2), .d (.int t3), .d (.lst (List.map Dt.str s6)), .own none (List.map (dL d_Stp) s9.1), .d (.int arm10), .un, .un, .un, .un, .un, .un, .un]) (ei_rng1 (ea_cons (ev_var (i := 1) rfl) (ea_nil)) h_r8) (wk_e <| wk_e <| wk_e <| wk_e <| wk_e <| wk_u <| wk_u <| wk_u <| wk_u <| wk_u <| wk_u <| wk_u <| wk_u <| wk_n) (fun arm10 s9 => eg_name (vs := [5]) (by simp)) fun arm10 s9 h_arm10 => sm_one <|
sm_as <|
sm_bind fun t11 h_t11 =>
sm_bind fun t12 h_t12 =>
sm_setM (es' := [.own (some p) (List.map Dt.int t11.2), .d (.int t2), .d (.int t3), .d (.lst (List.map Dt.str s6)), .own none (List.map (dL d_Stp) s9.1), .d (.int arm10), .d (.int (t3 - t12)), .un, .un, .un, .un, .un, .un]) (evm_op (evm_of (ev_var (i := 2) rfl)) (evm_op (evm_callM (P := P__law_digit A) (i := 0) rfl (eam_cons (evm_of (ev_add (ev_var (i := 2) rfl) (ev_int))) (eam_nil)) rfl ⟨s9.2, t3 + 1, t11, rfl, rfl, h_t11, rfl, rfl⟩ (es' := [.own (some p) (List.map Dt.int t11.2), .d (.int t2), .d (.int t3), .d (.lst (List.map Dt.str s6)), .own none (List.map (dL d_Stp) s9.1), .d (.int arm10), .un, .un, .un, .un, .un, .un, .un]) rfl) (evm_of (ev_int)) (r2_of (ev_mod (ev_var (i := 0) rfl) (ev_var (i := 1) rfl) h_t12))) (r2_of (ev_sub (ev_var (i := 0) rfl) (ev_var (i := 1) rfl)))) rfl <|
sm_as <|
sm_bind fun r13 h_r13 =>
sm_bind fun t17 h_t17 =>
sm_bind fun flows19 h_flows19 =>
sm_appM (i := 4) (x := t17.1) (es' := [.own (some p) (List.map Dt.int t17.2), .d (.int t2), .d (.int t3), .d (.lst (List.map Dt.str s6)), .own none (List.map (dL d_Stp) flows19), .d (.int arm10), .d (.int (t3 - t12)), .un, .un, .un, .un, .un, .un]) (em := (dL d_Stp)) rfl (evm_new (el_mapM (vs := [7]) (xs := r13) (em := Dt.int) (em2 := d_Stp) (env := fun (s15 : (List Int)) => [.own (some p) (List.map Dt.int s15), .d (.int t2), .d (.int t3), .d (.lst (List.map Dt.str s6)), .own none (List.map (dL d_Stp) s9.1), .d (.int arm10), .d (.int (t3 - t12)), .un, .un, .un, .un, .un, .un]) (en2 := fun (index14 : Int) (s15 : (List Int)) => [.own (some p) (List.map Dt.int s15), .d (.int t2), .d (.int t3), .d (.lst (List.map Dt.str s6)), .own none (List.map (dL d_Stp) s9.1), .d (.int arm10), .d (.int (t3 - t12)), .d (.int index14), .un, .un, .un, .un, .un]) (en3 := fun (index14 : Int) (s18 : (List Int)) => [.own (some p) (List.map Dt.int s18), .d (.int t2), .d (.int t3), .d (.lst (List.map Dt.str s6)), .own none (List.map (dL d_Stp) s9.1), .d (.int arm10), .d (.int (t3 - t12)), .d (.int index14), .un, .un, .un, .un, .un]) (s0 := t11.2) (eim_of (ei_rng1 (ea_cons (ev_var (i := 6) rfl) (ea_nil)) h_r13)) (fun index14 s15 => eg_name (vs := [7]) (by simp)) (fun index14 s15 => evm_bnd (em2 := d_Stp) (en3 := fun (s18 : (List Int)) => [.own (some p) (List.map Dt.int s18), .d (.int t2), .d (.int t3), .d (.lst (List.map Dt.str s6)), .own none (List.map (dL d_Stp) s9.1), .d (.int arm10), .d (.int (t3 - t12)), .d (.int index14), .un, .un, .un, .un, .un]) fun t16 h_t16 => evm_pure (em2 := d_Stp) (en3 := fun (s18 : (List Int)) => [.own (some p) (List.map Dt.int s18), .d (.int t2), .d (.int t3), .d (.lst (List.map Dt.str s6)), .own none (List.map (dL d_Stp) s9.1), .d (.int arm10), .d (.int (t3 - t12)), .d (.int index14), .un, .un, .un, .un, .un]) (evm_callM (P := P__law_step A) (i := 0) rfl (eam_cons (evm_of (ev_var (i := 7) rfl)) (eam_cons (evm_of (ev_var (i := 6) rfl)) (eam_cons (evm_of (ev_var (i := 3) rfl)) (eam_nil)))) rfl ⟨s15, index14, t3 - t12, s6, t16, rfl, rfl, h_t16, rfl, rfl⟩ (es' := [.own (some p) (List.map Dt.int t16.2), .d (.int t2), .d (.int t3), .d (.lst (List.map Dt.str s6)), .own none (List.map (dL d_Stp) s9.1), .d (.int arm10), .d (.int (t3 - t12)), .d (.int index14), .un, .un, .un, .un, .un]) rfl)) (fun _ _ _ => Swp.o (by decide) <| Swp.d rfl <| Swp.d rfl <| Swp.d rfl <| Swp.o (by decide) <| Swp.d rfl <| Swp.d rfl <| Swp.d rfl <| Swp.d rfl <| Swp.d rfl <| Swp.d rfl <| Swp.d rfl <| Swp.d rfl <| Swp.nil) h_t17)) rfl h_flows19 rfl <|
sm_nil <|
sm_some (sev_go (wk_e <| wk_e <| wk_e <| wk_e <| wk_e <| wk_u <| wk_u <| wk_u <| wk_u <| wk_u <| wk_u <| wk_u <| wk_u <| wk_n))) fun s20 h_s20 =>
sm_as <|
sm_bind fun r21 h_r21 =>
sm_bind fun t26 h_t26 =>
sm_setM (es' := [.own (some p) (List.map Dt.int t26.2), .d (.int t2), .d (.int t3), .d (.lst (List.map Dt.str s6)), .own none (List.map (dL d_Stp) s20.1), .un, .un, .un, .d (.lst (List.map Dt.str t26.1)), .un, .un, .un, .un]) (evm_new (el_mapM (vs := [5]) (xs := r21) (em := Dt.int) (em2 := Dt.str) (env := fun (s23 : (List Int)) => [.own (some p) (List.map Dt.int s23), .d (.int t2), .d (.int t3), .d (.lst (List.map Dt.str s6)), .own none (List.map (dL d_Stp) s20.1), .un, .un, .un, .un, .un, .un, .un, .un]) (en2 := fun (arm22 : Int) (s23 : (List Int)) => [.own (some p) (List.map Dt.int s23), .d (.int t2), .d (.int t3), .d (.lst (List.map Dt.str s6)), .own none (List.map (dL d_Stp) s20.1), .d (.int arm22), .un, .un, .un, .un, .un, .un, .un]) (en3 := fun (arm22 : Int) (s27 : (List Int)) => [.own (some p) (List.map Dt.int s27), .d (.int t2), .d (.int t3), .d (.lst (List.map Dt.str s6)), .own none (List.map (dL d_Stp) s20.1), .d (.int arm22), .un, .un, .un, .un, .un, .un, .un]) (s0 := s20.2) (eim_of (ei_rng1 (ea_cons (ev_var (i := 1) rfl) (ea_nil)) h_r21)) (fun arm22 s23 => eg_name (vs := [5]) (by simp)) (fun arm22 s23 => evm_bnd (em2 := Dt.str) (en3 := fun (s27 : (List Int)) => [.own (some p) (List.map Dt.int s27), .d (.int t2), .d (.int t3), .d (.lst (List.map Dt.str s6)), .own none (List.map (dL d_Stp) s20.1), .d (.int arm22), .un, .un, .un, .un, .un, .un, .un]) fun t24 h_t24 => evm_bnd (em2 := Dt.str) (en3 := fun (s27 : (List Int)) => [.own (some p) (List.map Dt.int s27), .d (.int t2), .d (.int t3), .d (.lst (List.map Dt.str s6)), .own none (List.map (dL d_Stp) s20.1), .d (.int arm22), .un, .un, .un, .un, .un, .un, .un]) fun t25 h_t25 => evm_pure (em2 := Dt.str) (en3 := fun (s27 : (List Int)) => [.own (some p) (List.map Dt.int s27), .d (.int t2), .d (.int t3), .d (.lst (List.map Dt.str s6)), .own none (List.map (dL d_Stp) s20.1), .d (.int arm22), .un, .un, .un, .un, .un, .un, .un]) (evm_op (evm_of (ev_new (el_lst (ea_cons (ev_str) (ea_cons (ev_str) (ea_nil))) (by simp)))) (evm_callM (P := P__law_digit A) (i := 0) rfl (eam_cons (evm_of (ev_int)) (eam_nil)) rfl ⟨s23, 2, t24, rfl, rfl, h_t24, rfl, rfl⟩ (es' := [.own (some p) (List.map Dt.int t24.2), .d (.int t2), .d (.int t3), .d (.lst (List.map Dt.str s6)), .own none (List.map (dL d_Stp) s20.1), .d (.int arm22), .un, .un, .un, .un, .un, .un, .un]) rfl) (r2_of (ev_ixLC (em := Dt.str) (xs := [("p" : Str), ("q" : Str)]) (ev_var (i := 0) rfl) (ev_var (i := 1) rfl) h_t25)))) (fun _ _ _ => Swp.o (by decide) <| Swp.d rfl <| Swp.d rfl <| Swp.d rfl <| Swp.o (by decide) <| Swp.d rfl <| Swp.d rfl <| Swp.d rfl <| Swp.d rfl <| Swp.d rfl <| Swp.d rfl <| Swp.d rfl <| Swp.d rfl <| Swp.nil) h_t26)) rfl <|
sm_as <|
sm_lt fun blocked28 h_blocked28 =>
sm_own (es' := [.own (some p) (List.map Dt.int t26.2), .d (.int t2), .d (.int t3), .d (.lst (List.map Dt.str s6)), .own none (List.map (dL d_Stp) s20.1), .un, .un, .un, .d (.lst (List.map Dt.str t26.1)), .own none (List.map (dT4 Dt.int d_Plc Dt.int d_Plc) blocked28), .un, .un, .un]) (el_is (el_lst (ds := List.map (dT4 Dt.int d_Plc Dt.int d_Plc) []) (ea_nil) (by simp)) (congrArg (List.map (dT4 Dt.int d_Plc Dt.int d_Plc)) h_blocked28)) rfl <|
sm_as <|
sm_bind fun t29 h_t29 =>
sm_bind fun r30 h_r30 =>
sm_seq (env := fun (s : (List (Int × Plc × Int × Plc)) × (List Int)) => [.own (some p) (List.map Dt.int s.2), .d (.int t2), .d (.int t3), .d (.lst (List.map Dt.str s6)), .own none (List.map (dL d_Stp) s20.1), .un, .un, .un, .d (.lst (List.map Dt.str t26.1)), .own none (List.map (dT4 Dt.int d_Plc Dt.int d_Plc) s.1), .un, .un, .un]) (sm_forLM (xs := r30) (em := Dt.int) (env := fun (s : (List (Int × Plc × Int × Plc)) × (List Int)) => [.own (some p) (List.map Dt.int s.2), .d (.int t2), .d (.int t3), .d (.lst (List.map Dt.str s6)), .own none (List.map (dL d_Stp) s20.1), .un, .un, .un, .d (.lst (List.map Dt.str t26.1)), .own none (List.map (dT4 Dt.int d_Plc Dt.int d_Plc) s.1), .un, .un, .un]) (en2 := fun (k32 : Int) (s31 : (List (Int × Plc × Int × Plc)) × (List Int)) => [.own (some p) (List.map Dt.int s31.2), .d (.int t2), .d (.int t3), .d (.lst (List.map Dt.str s6)), .own none (List.map (dL d_Stp) s20.1), .un, .un, .un, .d (.lst (List.map Dt.str t26.1)), .own none (List.map (dT4 Dt.int d_Plc Dt.int d_Plc) s31.1), .d (.int k32), .un, .un]) (eim_rng1 (eam_cons (evm_callM (P := P__law_digit A) (i := 0) rfl (eam_cons (evm_of (ev_int)) (eam_nil)) rfl ⟨t26.2, 9, t29, rfl, rfl, h_t29, rfl, rfl⟩ (es' := [.own (some p) (List.map Dt.int t29.2), .d (.int t2), .d (.int t3), .d (.lst (List.map Dt.str s6)), .own none (List.map (dL d_Stp) s20.1), .un, .un, .un, .d (.lst (List.map Dt.str t26.1)), .own none (List.map (dT4 Dt.int d_Plc Dt.int d_Plc) blocked28), .un, .un, .un]) rfl) eam_nil) h_r30) (wk_e <| wk_e <| wk_e <| wk_e <| wk_e <| wk_u <| wk_u <| wk_u <| wk_e <| wk_e <| wk_u <| wk_u <| wk_u <| wk_n) (fun k32 s31 => eg_name (vs := [10]) (by simp)) fun k32 s31 h_k32 => sm_one <|
sm_as <|
sm_bind fun t33 h_t33 =>
sm_setM (es' := [.own (some p) (List.map Dt.int t33.2), .d (.int t2), .d (.int t3), .d (.lst (List.map Dt.str s6)), .own none (List.map (dL d_Stp) s20.1), .d (.int t33.1), .un, .un, .d (.lst (List.map Dt.str t26.1)), .own none (List.map (dT4 Dt.int d_Plc Dt.int d_Plc) s31.1), .d (.int k32), .un, .un]) (evm_callM (P := P__law_digit A) (i := 0) rfl (eam_cons (evm_of (ev_var (i := 1) rfl)) (eam_nil)) rfl ⟨s31.2, t2, t33, rfl, rfl, h_t33, rfl, rfl⟩ (es' := [.own (some p) (List.map Dt.int t33.2), .d (.int t2), .d (.int t3), .d (.lst (List.map Dt.str s6)), .own none (List.map (dL d_Stp) s20.1), .un, .un, .un, .d (.lst (List.map Dt.str t26.1)), .own none (List.map (dT4 Dt.int d_Plc Dt.int d_Plc) s31.1), .d (.int k32), .un, .un]) rfl) rfl <|
sm_as <|
sm_bind fun t34 h_t34 =>
sm_setM (es' := [.own (some p) (List.map Dt.int t34.2), .d (.int t2), .d (.int t3), .d (.lst (List.map Dt.str s6)), .own none (List.map (dL d_Stp) s20.1), .d (.int t33.1), .un, .un, .d (.lst (List.map Dt.str t26.1)), .own none (List.map (dT4 Dt.int d_Plc Dt.int d_Plc) s31.1), .d (.int k32), .d (.int t34.1), .un]) (evm_callM (P := P__law_digit A) (i := 0) rfl (eam_cons (evm_of (ev_var (i := 1) rfl)) (eam_nil)) rfl ⟨t33.2, t2, t34, rfl, rfl, h_t34, rfl, rfl⟩ (es' := [.own (some p) (List.map Dt.int t34.2), .d (.int t2), .d (.int t3), .d (.lst (List.map Dt.str s6)), .own none (List.map (dL d_Stp) s20.1), .d (.int t33.1), .un, .un, .d (.lst (List.map Dt.str t26.1)), .own none (List.map (dT4 Dt.int d_Plc Dt.int d_Plc) s31.1), .d (.int k32), .un, .un]) rfl) rfl <|
sm_as <|
sm_bind fun t35 h_t35 =>
sm_setM (es' := [.own (some p) (List.map Dt.int t35.2), .d (.int t2), .d (.int t3), .d (.lst (List.map Dt.str s6)), .own none (List.map (dL d_Stp) s20.1), .d (.int t33.1), .un, .un, .d (.lst (List.map Dt.str t26.1)), .own none (List.map (dT4 Dt.int d_Plc Dt.int d_Plc) s31.1), .d (.int k32), .d (.int t34.1), .d (d_Plc t35.1)]) (evm_callM (P := P__law_place A) (i := 0) rfl (eam_nil) rfl ⟨t34.2, t35, rfl, rfl, h_t35, rfl, rfl⟩ (es' := [.own (some p) (List.map Dt.int t35.2), .d (.int t2), .d (.int t3), .d (.lst (List.map Dt.str s6)), .own none (List.map (dL d_Stp) s20.1), .d (.int t33.1), .un, .un, .d (.lst (List.map Dt.str t26.1)), .own none (List.map (dT4 Dt.int d_Plc Dt.int d_Plc) s31.1), .d (.int k32), .d (.int t34.1), .un]) rfl) rfl <|
sm_as <|
sm_seq (env := fun (s : (List (Int × Plc × Int × Plc)) × (List Int)) => [.own (some p) (List.map Dt.int s.2), .d (.int t2), .d (.int t3), .d (.lst (List.map Dt.str s6)), .own none (List.map (dL d_Stp) s20.1), .d (.int t33.1), .un, .un, .d (.lst (List.map Dt.str t26.1)), .own none (List.map (dT4 Dt.int d_Plc Dt.int d_Plc) s.1), .d (.int k32), .d (.int t34.1), .d (d_Plc t35.1)]) (sm_one <| sm_if (et_test (ev_neI (ev_var (i := 5) rfl) (ev_var (i := 11) rfl))) (fun hb =>
sm_as <|
sm_bind fun t36 h_t36 =>
sm_bind fun blocked37 h_blocked37 =>
sm_appM (i := 9) (x := (t33.1, t35.1, t34.1, t36.1)) (es' := [.own (some p) (List.map Dt.int t36.2), .d (.int t2), .d (.int t3), .d (.lst (List.map Dt.str s6)), .own none (List.map (dL d_Stp) s20.1), .d (.int t33.1), .un, .un, .d (.lst (List.map Dt.str t26.1)), .own none (List.map (dT4 Dt.int d_Plc Dt.int d_Plc) blocked37), .d (.int k32), .d (.int t34.1), .d (d_Plc t35.1)]) (em := (dT4 Dt.int d_Plc Dt.int d_Plc)) rfl (evm_tup (eam_cons (evm_of (ev_var (i := 5) rfl)) (eam_cons (evm_of (ev_var (i := 12) rfl)) (eam_cons (evm_of (ev_var (i := 11) rfl)) (eam_cons (evm_callM (P := P__law_place A) (i := 0) rfl (eam_nil) rfl ⟨t35.2, t36, rfl, rfl, h_t36, rfl, rfl⟩ (es' := [.own (some p) (List.map Dt.int t36.2), .d (.int t2), .d (.int t3), .d (.lst (List.map Dt.str s6)), .own none (List.map (dL d_Stp) s20.1), .d (.int t33.1), .un, .un, .d (.lst (List.map Dt.str t26.1)), .own none (List.map (dT4 Dt.int d_Plc Dt.int d_Plc) s31.1), .d (.int k32), .d (.int t34.1), .d (d_Plc t35.1)]) rfl) (eam_nil))))) (by simp)) rfl h_blocked37 rfl <|
sm_nil <|
sm_some (sev_nx (wk_e <| wk_e <| wk_e <| wk_e <| wk_e <| wk_e <| wk_u <| wk_u <| wk_e <| wk_e <| wk_e <| wk_e <| wk_e <| wk_n))) (fun hb =>
sm_nil <|
sm_some (sev_nx (wk_e <| wk_e <| wk_e <| wk_e <| wk_e <| wk_e <| wk_u <| wk_u <| wk_e <| wk_e <| wk_e <| wk_e <| wk_e <| wk_n)))) fun s38 h_s38 =>
sm_nil <|
sm_some (sev_go (wk_e <| wk_e <| wk_e <| wk_e <| wk_e <| wk_u <| wk_u <| wk_u <| wk_e <| wk_e <| wk_u <| wk_u <| wk_u <| wk_n))) fun s39 h_s39 =>
sm_as <|
sm_frz (i := 4) (es' := [.own (some p) (List.map Dt.int s39.2), .d (.int t2), .d (.int t3), .d (.lst (List.map Dt.str s6)), .d (.lst (List.map (dL d_Stp) s20.1)), .un, .un, .un, .d (.lst (List.map Dt.str t26.1)), .own none (List.map (dT4 Dt.int d_Plc Dt.int d_Plc) s39.1), .un, .un, .un]) rfl rfl <|
sm_frz (i := 9) (es' := [.own (some p) (List.map Dt.int s39.2), .d (.int t2), .d (.int t3), .d (.lst (List.map Dt.str s6)), .d (.lst (List.map (dL d_Stp) s20.1)), .un, .un, .un, .d (.lst (List.map Dt.str t26.1)), .d (.lst (List.map (dT4 Dt.int d_Plc Dt.int d_Plc) s39.1)), .un, .un, .un]) rfl rfl <|
sm_some (sev_rt (ev_tup (ea_cons (ev_var (i := 4) rfl) (ea_cons (ev_var (i := 8) rfl) (ea_cons (ev_var (i := 9) rfl) (ea_nil)))) (by simp)) (wk_e <| wk_u <| wk_u <| wk_u <| wk_u <| wk_u <| wk_u <| wk_u <| wk_u <| wk_u <| wk_u <| wk_u <| wk_u <| wk_n))⟩
theorem sc__law_more : FnScope ["_law_digits_here", "_law_arms", "_law_blocked", "_law_point", "_law_other", "_law_held"] ["_law_digits_here", "_law_arms"] (defScope (topS 23)) := ⟨rfl, rfl, rfl, by decide +kernel, rfl, by decide +kernel, by decide +kernel⟩
theorem b__law_more (T : Top K mg A) : Binds K A.d__law_more ["_law_digits_here", "_law_arms"] [] := T.F__law_more.binds (ps := ["_law_digits_here", "_law_arms"]) fun _ _ _ _ _ _ us hl => match us, hl with | [_, _], _ => rfl
def P__law_more (A : Ads) (xs ds : List Dt) (d : Dt) (ys : List Dt) : Prop := ∃ (digits_here : (List Int)) (arms : Int) (r : ((List (Int × Plc × Int × Plc)) × List Int)), xs = List.map Dt.int digits_here ∧ ds = [.int arms] ∧ m__law_more digits_here arms = some r ∧ d = .lst (List.map (dT4 Dt.int d_Plc Dt.int d_Plc) r.1) ∧ ys = List.map Dt.int r.2
set_option maxHeartbeats 4000000 in
theorem ok__law_more (T : Top K mg A) : FnOk P A.w K mg base CX0 2 A.f__law_more A.d__law_more ["_law_digits_here", "_law_arms"] (FSpec K (RMu (P__law_more A))) :=
  fn_M T.F__law_more sc__law_more (fun xs ds d ys h => by obtain ⟨digits_here, arms, r, rfl, rfl, _⟩ := h; rfl) fun cdv A1 outer s H E hr => ⟨_, pss_cons (ps_set (i := 2) sc__law_more.nd rfl (by first | exact Or.inl rfl | exact Or.inr rfl) (pe_lst (pa_nil)))
 (pss_cons (ps_if (PW.pt (pw_or (pt_cmpR op_lt (pv 1) (pe_int) (nomark _)) (pw_or1 (pt_cmpR op_eq (pe_call (ok__law_digit T) (hr.mono (by decide)) (by rfl) T.g__law_digit T.F__law_digit.kp (b__law_digit T) .nil pass0 (pa_cons (pv 0) (pa_cons (pe_int) (pa_nil)))) (pe_int) (nomark _))))) (pss_cons (ps_ret (pv 2))
 (pss_nil)) (pss_nil))
 (pss_cons (ps_for PassesOwn.never rfl (pi_list (pe_lst (pa_cons (pe_str) (pa_cons (pe_str) (pa_nil))))) (pg_name (i := 3) sc__law_more.nd rfl (by first | exact Or.inl rfl | exact Or.inr rfl)) (pss_cons (ps_for PassesOwn.never rfl (pi_range2 (by rfl) T.z_range (pa_cons (pe_int) (pa_cons (pv 1) (pa_nil)))) (pg_name (i := 4) sc__law_more.nd rfl (by first | exact Or.inl rfl | exact Or.inr rfl)) (pss_cons (ps_for PassesOwn.never rfl (pi_list (pe_lst (pa_cons (pe_non) (pa_cons (pe_str) (pa_nil))))) (pg_name (i := 5) sc__law_more.nd rfl (by first | exact Or.inl rfl | exact Or.inr rfl)) (pss_cons (ps_expr (pe_bm PySem.F.plainAttrs_list PySem.F.slot_list_append PySem.F.type_list_append mt_append (pv 2) (pa_cons (pe_tup (pa_cons (pe_op op_sub (pv 4) (pe_int)) (pa_cons (pe_tup (pa_cons (pe_str) (pa_cons (pe_str) (pa_cons (pe_str) (pa_cons (pe_non) (pa_nil)))))) (pa_cons (pv 4) (pa_cons (pe_tup (pa_cons (pe_str) (pa_cons (pv 3) (pa_cons (pv 5) (pa_nil))))) (pa_nil)))))) pa_nil)))
 (pss_cons (ps_expr (pe_bm PySem.F.plainAttrs_list PySem.F.slot_list_append PySem.F.type_list_append mt_append (pv 2) (pa_cons (pe_tup (pa_cons (pv 4) (pa_cons (pe_tup (pa_cons (pe_str) (pa_cons (pv 3) (pa_cons (pe_str) (pa_cons (pv 5) (pa_nil)))))) (pa_cons (pe_op op_sub (pv 4) (pe_int)) (pa_cons (pe_tup (pa_cons (pe_str) (pa_cons (pe_str) (pa_cons (pe_non) (pa_nil))))) (pa_nil)))))) pa_nil)))
 (pss_nil))))
 (pss_nil)))
 (pss_nil)))
 (pss_cons (ps_ret (pv 2))
 (pss_nil)))), fun p xs ds d ys h => by
    obtain ⟨digits_here, arms, r, rfl, rfl, h, rfl, rfl⟩ := h
    unfold m__law_more at h
    refine ⟨_, List.replicate 5 .un, sm_run (es := [.own (some p) (List.map Dt.int digits_here), .d (.int arms), .un, .un, .un, .un]) (oc := fun (r : ((List (Int × Plc × Int × Plc)) × List Int)) => .rt (.lst (List.map (dT4 Dt.int d_Plc Dt.int d_Plc) r.1)) (.own (some p) (List.map Dt.int r.2) :: List.replicate 5 .un)) h ?_, .inl rfl⟩
    exact sm_one <|
sm_as <|
sm_lt fun blocked1 h_blocked1 =>
sm_own (es' := [.own (some p) (List.map Dt.int digits_here), .d (.int arms), .own none (List.map (dT4 Dt.int d_Plc Dt.int d_Plc) blocked1), .un, .un, .un]) (el_is (el_lst (ds := List.map (dT4 Dt.int d_Plc Dt.int d_Plc) []) (ea_nil) (by simp)) (congrArg (List.map (dT4 Dt.int d_Plc Dt.int d_Plc)) h_blocked1)) rfl <|
sm_as <|
sm_bind fun t4 h_t4 =>
sm_ifM (etm_orC (en := fun (s3 : (List Int)) => [.own (some p) (List.map Dt.int s3), .d (.int arms), .own none (List.map (dT4 Dt.int d_Plc Dt.int d_Plc) blocked1), .un, .un, .un]) (s0 := digits_here) (et_test (ev_lt (ev_var (i := 1) rfl) (ev_int))) rfl (fun _ => etm_bnd (en := fun (s3 : (List Int)) => [.own (some p) (List.map Dt.int s3), .d (.int arms), .own none (List.map (dT4 Dt.int d_Plc Dt.int d_Plc) blocked1), .un, .un, .un]) fun t2 h_t2 => etm_pure (en := fun (s3 : (List Int)) => [.own (some p) (List.map Dt.int s3), .d (.int arms), .own none (List.map (dT4 Dt.int d_Plc Dt.int d_Plc) blocked1), .un, .un, .un]) (etm_test (evm_op (evm_callM (P := P__law_digit A) (i := 0) rfl (eam_cons (evm_of (ev_int)) (eam_nil)) rfl ⟨digits_here, 2, t2, rfl, rfl, h_t2, rfl, rfl⟩ (es' := [.own (some p) (List.map Dt.int t2.2), .d (.int arms), .own none (List.map (dT4 Dt.int d_Plc Dt.int d_Plc) blocked1), .un, .un, .un]) rfl) (evm_of (ev_int)) (r2_of (ev_eqI (ev_var (i := 0) rfl) (ev_var (i := 1) rfl)))))) h_t4) (fun hb =>
sm_as <|
sm_frz (i := 2) (es' := [.own (some p) (List.map Dt.int t4.2), .d (.int arms), .d (.lst (List.map (dT4 Dt.int d_Plc Dt.int d_Plc) blocked1)), .un, .un, .un]) rfl rfl <|
sm_some (sev_rt (ev_var (i := 2) rfl) (wk_e <| wk_u <| wk_u <| wk_u <| wk_u <| wk_u <| wk_n))) (fun hb =>
sm_nil <|
sm_as <|
sm_seq (env := fun (s : (List (Int × Plc × Int × Plc))) => [.own (some p) (List.map Dt.int t4.2), .d (.int arms), .own none (List.map (dT4 Dt.int d_Plc Dt.int d_Plc) s), .un, .un, .un]) (sm_forL (xs := [("p" : Str), ("q" : Str)]) (em := Dt.str) (env := fun (s : (List (Int × Plc × Int × Plc))) => [.own (some p) (List.map Dt.int t4.2), .d (.int arms), .own none (List.map (dT4 Dt.int d_Plc Dt.int d_Plc) s), .un, .un, .un]) (en2 := fun (point6 : Str) (s5 : (List (Int × Plc × Int × Plc))) => [.own (some p) (List.map Dt.int t4.2), .d (.int arms), .own none (List.map (dT4 Dt.int d_Plc Dt.int d_Plc) s5), .d (.str point6), .un, .un]) (ei_list (ds := List.map Dt.str [("p" : Str), ("q" : Str)]) (ev_new (el_lst (ea_cons (ev_str) (ea_cons (ev_str) (ea_nil))) (by simp)))) (wk_e <| wk_e <| wk_e <| wk_u <| wk_u <| wk_u <| wk_n) (fun point6 s5 => eg_name (vs := [3]) (by simp)) fun point6 s5 h_point6 => sm_one <|
sm_as <|
sm_bind fun r7 h_r7 =>
sm_seq (env := fun (s : (List (Int × Plc × Int × Plc))) => [.own (some p) (List.map Dt.int t4.2), .d (.int arms), .own none (List.map (dT4 Dt.int d_Plc Dt.int d_Plc) s), .d (.str point6), .un, .un]) (sm_forL (xs := r7) (em := Dt.int) (env := fun (s : (List (Int × Plc × Int × Plc))) => [.own (some p) (List.map Dt.int t4.2), .d (.int arms), .own none (List.map (dT4 Dt.int d_Plc Dt.int d_Plc) s), .d (.str point6), .un, .un]) (en2 := fun (other9 : Int) (s8 : (List (Int × Plc × Int × Plc))) => [.own (some p) (List.map Dt.int t4.2), .d (.int arms), .own none (List.map (dT4 Dt.int d_Plc Dt.int d_Plc) s8), .d (.str point6), .d (.int other9), .un]) (ei_rng2 (ea_cons (ev_int) (ea_cons (ev_var (i := 1) rfl) (ea_nil))) h_r7) (wk_e <| wk_e <| wk_e <| wk_e <| wk_u <| wk_u <| wk_n) (fun other9 s8 => eg_name (vs := [4]) (by simp)) fun other9 s8 h_other9 => sm_one <|
sm_as <|
sm_seq (env := fun (s : (List (Int × Plc × Int × Plc))) => [.own (some p) (List.map Dt.int t4.2), .d (.int arms), .own none (List.map (dT4 Dt.int d_Plc Dt.int d_Plc) s), .d (.str point6), .d (.int other9), .un]) (sm_forL (xs := [(none : (Option Str)), some ("x" : Str)]) (em := (dO Dt.str)) (env := fun (s : (List (Int × Plc × Int × Plc))) => [.own (some p) (List.map Dt.int t4.2), .d (.int arms), .own none (List.map (dT4 Dt.int d_Plc Dt.int d_Plc) s), .d (.str point6), .d (.int other9), .un]) (en2 := fun (held11 : (Option Str)) (s10 : (List (Int × Plc × Int × Plc))) => [.own (some p) (List.map Dt.int t4.2), .d (.int arms), .own none (List.map (dT4 Dt.int d_Plc Dt.int d_Plc) s10), .d (.str point6), .d (.int other9), .d ((dO Dt.str) held11)]) (ei_list (ds := List.map (dO Dt.str) [(none : (Option Str)), some ("x" : Str)]) (ev_new (el_lst (ea_cons (ev_non) (ea_cons (ev_str) (ea_nil))) (by simp)))) (wk_e <| wk_e <| wk_e <| wk_e <| wk_e <| wk_u <| wk_n) (fun held11 s10 => eg_name (vs := [5]) (by simp)) fun held11 s10 h_held11 => sm_one <|
sm_as <|
sm_bind fun blocked12 h_blocked12 =>
sm_app (i := 2) (x := (other9 - 1, (Plc.w_move ("p" : Str) ("q" : Str) (none : (Option Str))), other9, (Plc.w_rest point6 held11))) (es' := [.own (some p) (List.map Dt.int t4.2), .d (.int arms), .own none (List.map (dT4 Dt.int d_Plc Dt.int d_Plc) blocked12), .d (.str point6), .d (.int other9), .d ((dO Dt.str) held11)]) (em := (dT4 Dt.int d_Plc Dt.int d_Plc)) rfl (ev_tup (ea_cons (ev_sub (ev_var (i := 4) rfl) (ev_int)) (ea_cons (ev_is (ev_tup (ea_cons (ev_str) (ea_cons (ev_str) (ea_cons (ev_str) (ea_cons (ev_non) (ea_nil))))) (by simp)) rfl) (ea_cons (ev_var (i := 4) rfl) (ea_cons (ev_is (ev_tup (ea_cons (ev_str) (ea_cons (ev_var (i := 3) rfl) (ea_cons (ev_var (i := 5) rfl) (ea_nil)))) (by simp)) rfl) (ea_nil))))) (by simp)) h_blocked12 rfl <|
sm_as <|
sm_bind fun blocked13 h_blocked13 =>
sm_app (i := 2) (x := (other9, (Plc.w_move point6 ("p" : Str) held11), other9 - 1, (Plc.w_rest ("p" : Str) (none : (Option Str))))) (es' := [.own (some p) (List.map Dt.int t4.2), .d (.int arms), .own none (List.map (dT4 Dt.int d_Plc Dt.int d_Plc) blocked13), .d (.str point6), .d (.int other9), .d ((dO Dt.str) held11)]) (em := (dT4 Dt.int d_Plc Dt.int d_Plc)) rfl (ev_tup (ea_cons (ev_var (i := 4) rfl) (ea_cons (ev_is (ev_tup (ea_cons (ev_str) (ea_cons (ev_var (i := 3) rfl) (ea_cons (ev_str) (ea_cons (ev_var (i := 5) rfl) (ea_nil))))) (by simp)) rfl) (ea_cons (ev_sub (ev_var (i := 4) rfl) (ev_int)) (ea_cons (ev_is (ev_tup (ea_cons (ev_str) (ea_cons (ev_str) (ea_cons (ev_non) (ea_nil)))) (by simp)) rfl) (ea_nil))))) (by simp)) h_blocked13 rfl <|
sm_nil <|
sm_some (sev_go (wk_e <| wk_e <| wk_e <| wk_e <| wk_e <| wk_u <| wk_n))) fun s14 h_s14 =>
sm_nil <|
sm_some (sev_go (wk_e <| wk_e <| wk_e <| wk_e <| wk_u <| wk_u <| wk_n))) fun s15 h_s15 =>
sm_nil <|
sm_some (sev_go (wk_e <| wk_e <| wk_e <| wk_u <| wk_u <| wk_u <| wk_n))) fun s16 h_s16 =>
sm_as <|
sm_frz (i := 2) (es' := [.own (some p) (List.map Dt.int t4.2), .d (.int arms), .d (.lst (List.map (dT4 Dt.int d_Plc Dt.int d_Plc) s16)), .un, .un, .un]) rfl rfl <|
sm_some (sev_rt (ev_var (i := 2) rfl) (wk_e <| wk_u <| wk_u <| wk_u <| wk_u <| wk_u <| wk_n)))⟩
theorem sc_Plan_init : FnScope ["self", "flows", "starts", "blocked", "flow", "arm", "place", "other", "other_place"] ["self", "flows", "starts", "blocked"] (defScope (inClass (topS 5) 0)) := ⟨rfl, rfl, rfl, by decide +kernel, rfl, by decide +kernel, by decide +kernel⟩
theorem kb_Plan_init_blocked (T : Top K mg A) : ∃ mv : List Value, KBn K A.d_Plan_init ["self", "flows", "starts", "blocked"] 3 ["blocked"] (fun us ws => us ++ (ws.drop 0).take 1) (fun vs zs => vs ++ (zs.drop 0).take 1) := by
  refine T.D_Plan_init.kbinds0 3 ["blocked"] [] (fun us mv ws => us ++ (ws.drop 0).take 1) (by simp) (by simp) (fun r1 r2 r3 => (r1.append ((r3.drop 0).take 1))) ?_
  intro D doc pm an cdv ct us mv ws l1 l2 l3
  match us, l1, mv, l2, ws, l3 with
  | [_, _, _], _, [], _, [_], _ => exact by with_unfolding_all rfl
def P_Plan_init (A : Ads) (ds : List Dt) (fs : List (Str × Dt)) : Prop := ∃ (flows : (List (List Stp))) (starts : (List Str)) (blocked : (List (Int × Plc × Int × Plc))) (r : Plan), ds = [.lst (List.map (dL d_Stp) flows), .lst (List.map Dt.str starts), .lst (List.map (dT4 Dt.int d_Plc Dt.int d_Plc) blocked)] ∧ m_Plan_init flows starts blocked = some r ∧ fs = [(("flows" : Str), .lst (List.map (dL d_Stp) r.flows)), (("starts" : Str), .lst (List.map Dt.str r.starts)), (("blocks" : Str), (Dt.dic A.w) r.blocks)]
set_option maxHeartbeats 4000000 in
theorem ok_Plan_init (T : Top K mg A) : FnOk P A.w K mg base CX0 1 A.f_Plan_init A.d_Plan_init ["self", "flows", "starts", "blocked"] (FSpec K (RI A.c_Plan (P_Plan_init A))) :=
  fn_I T.F_Plan_init sc_Plan_init (fun ds fs h => by obtain ⟨flows, starts, blocked, r, rfl, _, _⟩ := h; rfl) fun cdv A1 outer s H E hr => ⟨_, pss_cons (ps_fld (pv 0) (pe_lc (own := [("flow", 4)]) (g := gName 4) (tt := tYes) rfl sc_Plan_init.nd (pi_list (pv 1)) (blkOk_by (N := ["self", "flows", "starts", "blocked", "flow", "arm", "place", "other", "other_place"]) (sc := defScope (inClass (topS 5) 0)) (by decide +kernel)) (fun _ _ _ _ _ => pg_name (i := 4) sc_Plan_init.nd rfl (by first | exact Or.inl rfl | exact Or.inr rfl)) (fun _ _ _ _ _ => pts_nil) (fun _ _ _ _ _ => pe_callTy cr_listS (by rfl) T.z_list bt_list (pa_cons (pv 4) (pa_nil)))) rfl)
 (pss_cons (ps_fld (pv 0) (pe_callTy cr_listS (by rfl) T.z_list bt_list (pa_cons (pv 2) (pa_nil))) rfl)
 (pss_cons (ps_fld (pv 0) (pe_dnewN) rfl)
 (pss_cons (ps_for PassesOwn.never rfl (pi_list (pv 3)) (pg_tup rfl (pgs_cons (pg_name (i := 5) sc_Plan_init.nd rfl (by first | exact Or.inl rfl | exact Or.inr rfl)) (pgs_cons (pg_name (i := 6) sc_Plan_init.nd rfl (by first | exact Or.inl rfl | exact Or.inr rfl)) (pgs_cons (pg_name (i := 7) sc_Plan_init.nd rfl (by first | exact Or.inl rfl | exact Or.inr rfl)) (pgs_cons (pg_name (i := 8) sc_Plan_init.nd rfl (by first | exact Or.inl rfl | exact Or.inr rfl)) (pgs_nil)))))) (pss_cons (ps_asg (pe_bl) (pg_sub (pe_fld (pv 0) (by rfl)) (pe_tup (pa_cons (pv 5) (pa_cons (pv 6) (pa_cons (pv 7) (pa_cons (pv 8) (pa_nil)))))) (set_nd hr)))
 (pss_cons (ps_asg (pe_bl) (pg_sub (pe_fld (pv 0) (by rfl)) (pe_tup (pa_cons (pv 7) (pa_cons (pv 8) (pa_cons (pv 5) (pa_cons (pv 6) (pa_nil)))))) (set_nd hr)))
 (pss_nil))))
 (pss_nil)))), fun p ds fs h => by
    obtain ⟨flows, starts, blocked, r, rfl, h, rfl⟩ := h
    unfold m_Plan_init at h
    refine ⟨_, List.replicate 8 .un, sm_run (es := [.obo (some p) A.c_Plan [], .d (.lst (List.map (dL d_Stp) flows)), .d (.lst (List.map Dt.str starts)), .d (.lst (List.map (dT4 Dt.int d_Plc Dt.int d_Plc) blocked)), .un, .un, .un, .un, .un]) (oc := fun (r : Plan) => .nx (.obo (some p) A.c_Plan [(("flows" : Str), .lst (List.map (dL d_Stp) r.flows)), (("starts" : Str), .lst (List.map Dt.str r.starts)), (("blocks" : Str), (Dt.dic A.w) r.blocks)] :: List.replicate 8 .un)) h ?_, .inr ⟨rfl, rfl⟩⟩
    exact sm_one <|
sm_as <|
sm_bind fun t2 h_t2 =>
sm_fld (i := 0) (es' := [.obo (some p) A.c_Plan [(("flows" : Str), .lst (List.map (dL d_Stp) t2))], .d (.lst (List.map (dL d_Stp) flows)), .d (.lst (List.map Dt.str starts)), .d (.lst (List.map (dT4 Dt.int d_Plc Dt.int d_Plc) blocked)), .un, .un, .un, .un, .un]) rfl (ev_new (el_hide (es' := [.un, .d (.lst (List.map (dL d_Stp) flows)), .d (.lst (List.map Dt.str starts)), .d (.lst (List.map (dT4 Dt.int d_Plc Dt.int d_Plc) blocked)), .un, .un, .un, .un, .un]) rfl (el_mapP (vs := [4]) (em := (dL d_Stp)) (em2 := (dL d_Stp)) (en2 := fun (flow1 : (List Stp)) => [.un, .d (.lst (List.map (dL d_Stp) flows)), .d (.lst (List.map Dt.str starts)), .d (.lst (List.map (dT4 Dt.int d_Plc Dt.int d_Plc) blocked)), .d (.lst (List.map d_Stp flow1)), .un, .un, .un, .un]) (ei_list (ev_var (i := 1) rfl)) (fun flow1 => eg_name (vs := [4]) (by simp)) (fun flow1 => ev_new (el_listL (ev_var (i := 4) rfl))) rfl h_t2))) T.cl_Plan T.n_Plan_flows (by simp) rfl <|
sm_as <|
sm_fld (i := 0) (es' := [.obo (some p) A.c_Plan [(("flows" : Str), .lst (List.map (dL d_Stp) t2)), (("starts" : Str), .lst (List.map Dt.str starts))], .d (.lst (List.map (dL d_Stp) flows)), .d (.lst (List.map Dt.str starts)), .d (.lst (List.map (dT4 Dt.int d_Plc Dt.int d_Plc) blocked)), .un, .un, .un, .un, .un]) rfl (ev_new (el_listL (ev_var (i := 2) rfl))) T.cl_Plan T.n_Plan_starts (by simp) rfl <|
sm_bind fun z5 h_z5 =>
sm_bind fun blocks6 h_blocks6 =>
sm_dfill (i := 0) (em := (dT4 Dt.int d_Plc Dt.int d_Plc)) (items := blocked) (env := [.un, .d (.lst (List.map (dL d_Stp) flows)), .d (.lst (List.map Dt.str starts)), .d (.lst (List.map (dT4 Dt.int d_Plc Dt.int d_Plc) blocked)), .un, .un, .un, .un, .un]) (en := fun (x3 : (Int × Plc × Int × Plc)) => [.un, .d (.lst (List.map (dL d_Stp) flows)), .d (.lst (List.map Dt.str starts)), .d (.lst (List.map (dT4 Dt.int d_Plc Dt.int d_Plc) blocked)), .un, .d (.int x3.1), .d (d_Plc x3.2.1), .d (.int x3.2.2.1), .d (d_Plc x3.2.2.2)]) (e1 := fun (x3 : (Int × Plc × Int × Plc)) => [.int x3.1, d_Plc x3.2.1, .int x3.2.2.1, d_Plc x3.2.2.2]) (e2 := fun (x3 : (Int × Plc × Int × Plc)) => [.int x3.2.2.1, d_Plc x3.2.2.2, .int x3.1, d_Plc x3.2.1]) (d := .bl true) (es' := [.obo (some p) A.c_Plan [(("flows" : Str), .lst (List.map (dL d_Stp) t2)), (("starts" : Str), .lst (List.map Dt.str starts)), (("blocks" : Str), (Dt.dic A.w) blocks6)], .d (.lst (List.map (dL d_Stp) flows)), .d (.lst (List.map Dt.str starts)), .d (.lst (List.map (dT4 Dt.int d_Plc Dt.int d_Plc) blocked)), .un, .un, .un, .un, .un]) rfl T.cl_Plan T.n_Plan_blocks (by simp) (ei_list (ev_var (i := 3) rfl)) (wk_u <| wk_e <| wk_e <| wk_e <| wk_u <| wk_u <| wk_u <| wk_u <| wk_u <| wk_n) (fun x3 => eg_tup (egs_cons (eg_name (vs := [5, 6, 7, 8]) (by simp)) (egs_cons (eg_name (vs := [5, 6, 7, 8]) (by simp)) (egs_cons (eg_name (vs := [5, 6, 7, 8]) (by simp)) (egs_cons (eg_name (vs := [5, 6, 7, 8]) (by simp)) (egs_nil))))) rfl) (by decide) (fun x3 => wk_u <| wk_e <| wk_e <| wk_e <| wk_u <| wk_u <| wk_u <| wk_u <| wk_u <| wk_n) (fun x3 => ev_bl) (fun x3 => ev_tup (ea_cons (ev_var (i := 5) rfl) (ea_cons (ev_var (i := 6) rfl) (ea_cons (ev_var (i := 7) rfl) (ea_cons (ev_var (i := 8) rfl) (ea_nil))))) (by simp)) (fun x3 => ev_bl) (fun x3 => ev_tup (ea_cons (ev_var (i := 7) rfl) (ea_cons (ev_var (i := 8) rfl) (ea_cons (ev_var (i := 5) rfl) (ea_cons (ev_var (i := 6) rfl) (ea_nil))))) (by simp)) h_blocks6 (szC_of h_z5) rfl <|
sm_nil <|
sm_some (sev_nx (wk_e <| wk_uns rfl))⟩
theorem sc__law_landing : FnScope ["_law_flow", "_law_index", "_law_k"] ["_law_flow", "_law_index"] (defScope (topS 13)) := ⟨rfl, rfl, rfl, by decide +kernel, rfl, by decide +kernel, by decide +kernel⟩
theorem b__law_landing (T : Top K mg A) : Binds K A.d__law_landing ["_law_flow", "_law_index"] [] := T.F__law_landing.binds (ps := ["_law_flow", "_law_index"]) fun _ _ _ _ _ _ us hl => match us, hl with | [_, _], _ => rfl
def P__law_landing (A : Ads) (ds : List Dt) (d : Dt) : Prop := ∃ (flow : (List Stp)) (index : Int) (r : Int), ds = [.lst (List.map d_Stp flow), .int index] ∧ m__law_landing flow index = some r ∧ d = .int r
set_option maxHeartbeats 4000000 in
theorem ok__law_landing (T : Top K mg A) : FnOk P A.w K mg base CX0 1 A.f__law_landing A.d__law_landing ["_law_flow", "_law_index"] (FSpec K (RD (P__law_landing A))) :=
  fn_D T.F__law_landing sc__law_landing (fun ds d h => by obtain ⟨flow, index, r, rfl, _, _⟩ := h; rfl) fun cdv A1 outer s H E hr => ⟨_, pss_cons (ps_for PassesOwn.never rfl (pi_range1 (by rfl) T.z_range (pa_cons (pe_op op_add (pe_callB cr_lenS (by rfl) T.z_len bt_len (pa_cons (pv 0) (pa_nil))) (pe_int)) (pa_nil))) (pg_name (i := 2) sc__law_landing.nd rfl (by first | exact Or.inl rfl | exact Or.inr rfl)) (pss_cons (ps_if (PW.pt (pw_and (pt_cmpR op_lt (pv 1) (pe_callB cr_lenS (by rfl) T.z_len bt_len (pa_cons (pv 0) (pa_nil))) (nomark _)) (pw_and1 (pt_cmpR op_eq (pe_ix ix_tup (pe_ix ix_list (pv 0) (pv 1) (fun _ _ => rfl)) (pe_int) (fun _ _ => rfl)) (pe_str) (nomark _))))) (pss_cons (ps_set (i := 1) sc__law_landing.nd rfl (by first | exact Or.inl rfl | exact Or.inr rfl) (pe_ix ix_tup (pe_ix ix_list (pv 0) (pv 1) (fun _ _ => rfl)) (pe_int) (fun _ _ => rfl)))
 (pss_nil)) (pss_nil))
 (pss_nil)))
 (pss_cons (ps_ret (pv 1))
 (pss_nil)), fun ds d h => by
    obtain ⟨flow, index, r, rfl, h, rfl⟩ := h
    unfold m__law_landing at h
    refine ⟨_, List.replicate 3 .un, sm_run (es := [.d (.lst (List.map d_Stp flow)), .d (.int index), .un]) (oc := fun (r : Int) => .rt (.int r) (List.replicate 3 .un)) h ?_, .inl rfl⟩
    exact sm_one <|
sm_as <|
sm_bind fun r1 h_r1 =>
sm_seq (env := fun (s : Int) => [.d (.lst (List.map d_Stp flow)), .d (.int s), .un]) (sm_forL (xs := r1) (em := Dt.int) (env := fun (s : Int) => [.d (.lst (List.map d_Stp flow)), .d (.int s), .un]) (en2 := fun (k3 : Int) (s2 : Int) => [.d (.lst (List.map d_Stp flow)), .d (.int s2), .d (.int k3)]) (ei_rng1 (ea_cons (ev_add (ev_lenLm (ev_var (i := 0) rfl)) (ev_int)) (ea_nil)) h_r1) (wk_e <| wk_e <| wk_u <| wk_n) (fun k3 s2 => eg_name (vs := [2]) (by simp)) fun k3 s2 h_k3 => sm_one <|
sm_as <|
sm_bind fun b5 h_b5 =>
sm_seq (env := fun (s : Int) => [.d (.lst (List.map d_Stp flow)), .d (.int s), .d (.int k3)]) (sm_one <| sm_if (et_andC (et_test (ev_lt (ev_var (i := 1) rfl) (ev_lenLm (ev_var (i := 0) rfl)))) (fun _ => et_bnd fun t4 h_t4 => et_pure (et_test (ev_eqS (ev_ixR (ev_ixLC (em := d_Stp) (ev_var (i := 0) rfl) (ev_var (i := 1) rfl) h_t4) (ev_int) (d_Stp_word _)) (ev_str)))) h_b5) (fun hb =>
sm_as <|
sm_bind fun t6 h_t6 =>
sm_bind fun t7 h_t7 =>
sm_set (es' := [.d (.lst (List.map d_Stp flow)), .d (.int t7), .d (.int k3)]) (ev_ixR (ev_ixLC (em := d_Stp) (ev_var (i := 0) rfl) (ev_var (i := 1) rfl) h_t6) (ev_int) (d_Stp_at1I h_t7)) rfl <|
sm_nil <|
sm_some (sev_nx (wk_e <| wk_e <| wk_e <| wk_n))) (fun hb =>
sm_nil <|
sm_some (sev_nx (wk_e <| wk_e <| wk_e <| wk_n)))) fun s8 h_s8 =>
sm_nil <|
sm_some (sev_go (wk_e <| wk_e <| wk_u <| wk_n))) fun s9 h_s9 =>
sm_as <|
sm_some (sev_rt (ev_var (i := 1) rfl) (wk_uns rfl))⟩
theorem sc__law_start : FnScope ["_law_flows", "_law_starts", "_law_spots", "_law_arm"] ["_law_flows", "_law_starts"] (defScope (topS 14)) := ⟨rfl, rfl, rfl, by decide +kernel, rfl, by decide +kernel, by decide +kernel⟩
theorem b__law_start (T : Top K mg A) : Binds K A.d__law_start ["_law_flows", "_law_starts"] [] := T.F__law_start.binds (ps := ["_law_flows", "_law_starts"]) fun _ _ _ _ _ _ us hl => match us, hl with | [_, _], _ => rfl
def P__law_start (A : Ads) (ds : List Dt) (d : Dt) : Prop := ∃ (flows : (List (List Stp))) (starts : (List Str)) (r : ((List (Int × Str × (Option Str))) × (List Str))), ds = [.lst (List.map (dL d_Stp) flows), .lst (List.map Dt.str starts)] ∧ m__law_start flows starts = some r ∧ d = (dT2 (dV (dT3 Dt.int Dt.str (dO Dt.str))) (dV Dt.str)) r
set_option maxHeartbeats 4000000 in
theorem ok__law_start (T : Top K mg A) : FnOk P A.w K mg base CX0 2 A.f__law_start A.d__law_start ["_law_flows", "_law_starts"] (FSpec K (RD (P__law_start A))) :=
  fn_D T.F__law_start sc__law_start (fun ds d h => by obtain ⟨flows, starts, r, rfl, _, _⟩ := h; rfl) fun cdv A1 outer s H E hr => ⟨_, pss_cons (ps_setLc (i := 2) (own := [("_law_arm", 3)]) (g := gName 3) (tt := tYes) rfl sc__law_start.nd rfl rfl (sw_true rfl rfl rfl (by decide +kernel)) (pi_range1 (by rfl) T.z_range (pa_cons (pe_callB cr_lenS (by rfl) T.z_len bt_len (pa_cons (pv 0) (pa_nil))) (pa_nil))) (blkOk_by (N := ["_law_flows", "_law_starts", "_law_spots", "_law_arm"]) (sc := defScope (topS 14)) (by decide +kernel)) (fun _ _ _ _ _ => pg_name (i := 3) sc__law_start.nd rfl (by first | exact Or.inl rfl | exact Or.inr rfl)) (fun _ _ _ _ _ => pts_nil) (fun _ _ _ _ _ => pe_tup (pa_cons (pe_call (ok__law_landing T) (hr.mono (by decide)) (by rfl) T.g__law_landing T.F__law_landing.kp (b__law_landing T) .nil pass0 (pa_cons (pe_ix ix_list (pv 0) (pv 3) (fun _ _ => rfl)) (pa_cons (pe_int) (pa_nil)))) (pa_cons (pe_ix ix_list (pv 1) (pv 3) (fun _ _ => rfl)) (pa_cons (pe_non) (pa_nil))))))
 (pss_cons (ps_ret (pe_tup (pa_cons (pe_callTy (cr_tupSK (K := K) rfl) (by rfl) T.z_tuple bt_tuple (pa_cons (pv 2) (pa_nil))) (pa_cons (pe_tup (pa_nil)) (pa_nil)))))
 (pss_nil)), fun ds d h => by
    obtain ⟨flows, starts, r, rfl, h, rfl⟩ := h
    unfold m__law_start at h
    refine ⟨_, List.replicate 4 .un, sm_run (es := [.d (.lst (List.map (dL d_Stp) flows)), .d (.lst (List.map Dt.str starts)), .un, .un]) (oc := fun (r : ((List (Int × Str × (Option Str))) × (List Str))) => .rt ((dT2 (dV (dT3 Dt.int Dt.str (dO Dt.str))) (dV Dt.str)) r) (List.replicate 4 .un)) h ?_, .inl rfl⟩
    exact sm_one <|
sm_as <|
sm_bind fun r1 h_r1 =>
sm_bind fun t6 h_t6 =>
sm_set (es' := [.d (.lst (List.map (dL d_Stp) flows)), .d (.lst (List.map Dt.str starts)), .d (.lst (List.map (dT3 Dt.int Dt.str (dO Dt.str)) t6)), .un]) (ev_new (el_map (vs := [3]) (em := Dt.int) (em2 := (dT3 Dt.int Dt.str (dO Dt.str))) (en2 := fun (arm2 : Int) => [.d (.lst (List.map (dL d_Stp) flows)), .d (.lst (List.map Dt.str starts)), .un, .d (.int arm2)]) (ei_rng1 (ea_cons (ev_lenLm (ev_var (i := 0) rfl)) (ea_nil)) h_r1) (fun arm2 => eg_name (vs := [3]) (by simp)) (fun arm2 => ev_bnd fun t3 h_t3 => ev_bnd fun t4 h_t4 => ev_bnd fun t5 h_t5 => ev_pure (ev_as (em := (dT3 Dt.int Dt.str (dO Dt.str))) (x := (t4, t5, (none : (Option Str)))) (ev_tup (ea_cons (ev_call (ea_cons (ev_ixLC (em := (dL d_Stp)) (ev_var (i := 0) rfl) (ev_var (i := 3) rfl) h_t3) (ea_cons (ev_int) (ea_nil))) ⟨t3, 0, t4, rfl, h_t4, rfl⟩) (ea_cons (ev_ixLC (em := Dt.str) (ev_var (i := 1) rfl) (ev_var (i := 3) rfl) h_t5) (ea_cons (ev_non) (ea_nil)))) (by simp)))) rfl h_t6)) rfl <|
sm_as <|
sm_some (sev_rt (ev_tup (ea_cons (ev_tupL (ev_var (i := 2) rfl)) (ea_cons (ev_tup (ea_nil) (by simp)) (ea_nil))) (by simp)) (wk_uns rfl))⟩
theorem sc_Plan_has_ended : FnScope ["self", "state", "arm"] ["self", "state", "arm"] (defScope (inClass (topS 5) 4)) := ⟨rfl, rfl, rfl, by decide +kernel, rfl, by decide +kernel, by decide +kernel⟩
theorem b_Plan_has_ended (T : Top K mg A) : Binds K A.d_Plan_has_ended ["self", "state", "arm"] [] := T.F_Plan_has_ended.binds (ps := ["self", "state", "arm"]) fun _ _ _ _ _ _ us hl => match us, hl with | [_, _, _], _ => rfl
def P_Plan_has_ended (A : Ads) (ds : List Dt) (d : Dt) : Prop := ∃ (self : Plan) (state : ((List (Int × Str × (Option Str))) × (List Str))) (arm : Int) (r : Bool), ds = [(d_Plan A) self, (dT2 (dV (dT3 Dt.int Dt.str (dO Dt.str))) (dV Dt.str)) state, .int arm] ∧ m_Plan_has_ended self state arm = some r ∧ d = .bl r
set_option maxHeartbeats 4000000 in
theorem ok_Plan_has_ended (T : Top K mg A) : FnOk P A.w K mg base CX0 1 A.f_Plan_has_ended A.d_Plan_has_ended ["self", "state", "arm"] (FSpec K (RD (P_Plan_has_ended A))) :=
  fn_D T.F_Plan_has_ended sc_Plan_has_ended (fun ds d h => by obtain ⟨self, state, arm, r, rfl, _, _⟩ := h; rfl) fun cdv A1 outer s H E hr => ⟨_, pss_cons (ps_ret (pe_cmpR op_ge (pe_ix ix_tup (pe_ix ix_tup (pe_ix ix_tup (pv 1) (pe_int) (fun _ _ => rfl)) (pv 2) (fun _ _ => rfl)) (pe_int) (fun _ _ => rfl)) (pe_callB cr_lenS (by rfl) T.z_len bt_len (pa_cons (pe_ix ix_list (pe_fld (pv 0) (by rfl)) (pv 2) (fun _ _ => rfl)) (pa_nil))) (nomark _)))
 (pss_nil), fun ds d h => by
    obtain ⟨self, state, arm, r, rfl, h, rfl⟩ := h
    unfold m_Plan_has_ended at h
    refine ⟨_, List.replicate 3 .un, sm_run (es := [.d ((d_Plan A) self), .d ((dT2 (dV (dT3 Dt.int Dt.str (dO Dt.str))) (dV Dt.str)) state), .d (.int arm)]) (oc := fun (r : Bool) => .rt (.bl r) (List.replicate 3 .un)) h ?_, .inl rfl⟩
    exact sm_one <|
sm_as <|
sm_bind fun t1 h_t1 =>
sm_bind fun t2 h_t2 =>
sm_some (sev_rt (ev_ge (ev_ixNG 0 rfl rfl (ev_ixTC (em := (dT3 Dt.int Dt.str (dO Dt.str))) (ev_ixNG 0 rfl rfl (ev_var (i := 1) rfl) (ev_int)) (ev_var (i := 2) rfl) h_t1) (ev_int)) (ev_lenLm (ev_ixLC (em := (dL d_Stp)) (ev_fld (ev_var (i := 0) rfl) T.cl_Plan T.n_Plan_flows rfl) (ev_var (i := 2) rfl) h_t2))) (wk_uns rfl))⟩
theorem sc_Plan_all_ended : FnScope ["self", "state", "arm"] ["self", "state"] (defScope (inClass (topS 5) 5)) := ⟨rfl, rfl, rfl, by decide +kernel, rfl, by decide +kernel, by decide +kernel⟩
theorem b_Plan_all_ended (T : Top K mg A) : Binds K A.d_Plan_all_ended ["self", "state"] [] := T.F_Plan_all_ended.binds (ps := ["self", "state"]) fun _ _ _ _ _ _ us hl => match us, hl with | [_, _], _ => rfl
def P_Plan_all_ended (A : Ads) (ds : List Dt) (d : Dt) : Prop := ∃ (self : Plan) (state : ((List (Int × Str × (Option Str))) × (List Str))) (r : Bool), ds = [(d_Plan A) self, (dT2 (dV (dT3 Dt.int Dt.str (dO Dt.str))) (dV Dt.str)) state] ∧ m_Plan_all_ended self state = some r ∧ d = .bl r
set_option maxHeartbeats 4000000 in
theorem ok_Plan_all_ended (T : Top K mg A) : FnOk P A.w K mg base CX0 2 A.f_Plan_all_ended A.d_Plan_all_ended ["self", "state"] (FSpec K (RD (P_Plan_all_ended A))) :=
  fn_D T.F_Plan_all_ended sc_Plan_all_ended (fun ds d h => by obtain ⟨self, state, r, rfl, _, _⟩ := h; rfl) fun cdv A1 outer s H E hr => ⟨_, pss_cons (ps_for PassesOwn.never rfl (pi_range1 (by rfl) T.z_range (pa_cons (pe_callB cr_lenS (by rfl) T.z_len bt_len (pa_cons (pe_fld (pv 0) (by rfl)) (pa_nil))) (pa_nil))) (pg_name (i := 2) sc_Plan_all_ended.nd rfl (by first | exact Or.inl rfl | exact Or.inr rfl)) (pss_cons (ps_if (pt_not (pt_val (pe_meth (pv 0) T.cl_Plan T.m_Plan_has_ended (ok_Plan_has_ended T) (hr.mono (by decide)) (b_Plan_has_ended T) .nil pass0 (pa_cons (pv 1) (pa_cons (pv 2) (pa_nil)))))) (pss_cons (ps_ret (pe_bl))
 (pss_nil)) (pss_nil))
 (pss_nil)))
 (pss_cons (ps_ret (pe_bl))
 (pss_nil)), fun ds d h => by
    obtain ⟨self, state, r, rfl, h, rfl⟩ := h
    unfold m_Plan_all_ended at h
    refine ⟨_, List.replicate 3 .un, sm_run (es := [.d ((d_Plan A) self), .d ((dT2 (dV (dT3 Dt.int Dt.str (dO Dt.str))) (dV Dt.str)) state), .un]) (oc := fun (r : Bool) => .rt (.bl r) (List.replicate 3 .un)) h ?_, .inl rfl⟩
    exact sm_one <|
sm_as <|
sm_bind fun r1 h_r1 =>
sm_thenF (env := fun (s : Unit) => [.d ((d_Plan A) self), .d ((dT2 (dV (dT3 Dt.int Dt.str (dO Dt.str))) (dV Dt.str)) state), .un]) (ed := fun r => .bl r) (ee := fun _ => List.replicate 3 .un) (sm_for (xs := r1) (em := Dt.int) (env := fun (s : Unit) => [.d ((d_Plan A) self), .d ((dT2 (dV (dT3 Dt.int Dt.str (dO Dt.str))) (dV Dt.str)) state), .un]) (en2 := fun (arm3 : Int) (s2 : Unit) => [.d ((d_Plan A) self), .d ((dT2 (dV (dT3 Dt.int Dt.str (dO Dt.str))) (dV Dt.str)) state), .d (.int arm3)]) (ei_rng1 (ea_cons (ev_lenLm (ev_fld (ev_var (i := 0) rfl) T.cl_Plan T.n_Plan_flows rfl)) (ea_nil)) h_r1) (wk_e <| wk_e <| wk_u <| wk_n) (fun arm3 s2 => eg_name (vs := [2]) (by simp)) fun arm3 s2 h_arm3 => sm_one <|
sm_as <|
sm_bind fun t4 h_t4 =>
sm_if (et_not (et_B (ev_meth (ev_var (i := 0) rfl) rfl (ea_cons (ev_var (i := 1) rfl) (ea_cons (ev_var (i := 2) rfl) (ea_nil))) ⟨self, state, arm3, t4, rfl, h_t4, rfl⟩))) (fun hb =>
sm_as <|
sm_some (sev_rt (ev_bl) (wk_uns rfl))) (fun hb =>
sm_nil <|
sm_nil <|
sm_some (sev_go (wk_e <| wk_e <| wk_u <| wk_n)))) (fun s5 =>
sm_as <|
sm_some (sev_rt (ev_bl) (wk_uns rfl))) (fun _ => rfl)⟩
theorem sc_Plan_step_of : FnScope ["self", "state", "arm", "at"] ["self", "state", "arm"] (defScope (inClass (topS 5) 3)) := ⟨rfl, rfl, rfl, by decide +kernel, rfl, by decide +kernel, by decide +kernel⟩
theorem b_Plan_step_of (T : Top K mg A) : Binds K A.d_Plan_step_of ["self", "state", "arm"] [] := T.F_Plan_step_of.binds (ps := ["self", "state", "arm"]) fun _ _ _ _ _ _ us hl => match us, hl with | [_, _, _], _ => rfl
def P_Plan_step_of (A : Ads) (ds : List Dt) (d : Dt) : Prop := ∃ (self : Plan) (state : ((List (Int × Str × (Option Str))) × (List Str))) (arm : Int) (r : (Option Stp)), ds = [(d_Plan A) self, (dT2 (dV (dT3 Dt.int Dt.str (dO Dt.str))) (dV Dt.str)) state, .int arm] ∧ m_Plan_step_of self state arm = some r ∧ d = (dO d_Stp) r
set_option maxHeartbeats 4000000 in
theorem ok_Plan_step_of (T : Top K mg A) : FnOk P A.w K mg base CX0 1 A.f_Plan_step_of A.d_Plan_step_of ["self", "state", "arm"] (FSpec K (RD (P_Plan_step_of A))) :=
  fn_D T.F_Plan_step_of sc_Plan_step_of (fun ds d h => by obtain ⟨self, state, arm, r, rfl, _, _⟩ := h; rfl) fun cdv A1 outer s H E hr => ⟨_, pss_cons (ps_set (i := 3) sc_Plan_step_of.nd rfl (by first | exact Or.inl rfl | exact Or.inr rfl) (pe_ix ix_tup (pe_ix ix_tup (pe_ix ix_tup (pv 1) (pe_int) (fun _ _ => rfl)) (pv 2) (fun _ _ => rfl)) (pe_int) (fun _ _ => rfl)))
 (pss_cons (ps_ret (pe_ifExp (pt_cmpR op_lt (pv 3) (pe_callB cr_lenS (by rfl) T.z_len bt_len (pa_cons (pe_ix ix_list (pe_fld (pv 0) (by rfl)) (pv 2) (fun _ _ => rfl)) (pa_nil))) (nomark _)) (pe_ix ix_list (pe_ix ix_list (pe_fld (pv 0) (by rfl)) (pv 2) (fun _ _ => rfl)) (pv 3) (fun _ _ => rfl)) (pe_non)))
 (pss_nil)), fun ds d h => by
    obtain ⟨self, state, arm, r, rfl, h, rfl⟩ := h
    unfold m_Plan_step_of at h
    refine ⟨_, List.replicate 4 .un, sm_run (es := [.d ((d_Plan A) self), .d ((dT2 (dV (dT3 Dt.int Dt.str (dO Dt.str))) (dV Dt.str)) state), .d (.int arm), .un]) (oc := fun (r : (Option Stp)) => .rt ((dO d_Stp) r) (List.replicate 4 .un)) h ?_, .inl rfl⟩
    exact sm_one <|
sm_as <|
sm_bind fun t1 h_t1 =>
sm_lt fun at_2 h_at_2 =>
sm_set (es' := [.d ((d_Plan A) self), .d ((dT2 (dV (dT3 Dt.int Dt.str (dO Dt.str))) (dV Dt.str)) state), .d (.int arm), .d (.int at_2)]) (ev_is (ev_ixNG 0 rfl rfl (ev_ixTC (em := (dT3 Dt.int Dt.str (dO Dt.str))) (ev_ixNG 0 rfl rfl (ev_var (i := 1) rfl) (ev_int)) (ev_var (i := 2) rfl) h_t1) (ev_int)) (congrArg Dt.int h_at_2)) rfl <|
sm_as <|
sm_bind fun t3 h_t3 =>
sm_bind fun t6 h_t6 =>
sm_some (sev_rt (ev_ifC (em := (dO d_Stp)) (et_test (ev_lt (ev_var (i := 3) rfl) (ev_lenLm (ev_ixLC (em := (dL d_Stp)) (ev_fld (ev_var (i := 0) rfl) T.cl_Plan T.n_Plan_flows rfl) (ev_var (i := 2) rfl) h_t3)))) (fun _ => ev_bnd fun t4 h_t4 => ev_bnd fun t5 h_t5 => ev_pure (v := some t5) (ev_ixLC (em := d_Stp) (ev_ixLC (em := (dL d_Stp)) (ev_fld (ev_var (i := 0) rfl) T.cl_Plan T.n_Plan_flows rfl) (ev_var (i := 2) rfl) h_t4) (ev_var (i := 3) rfl) h_t5)) (fun _ => ev_pure (v := (none : (Option Stp))) (ev_non)) h_t6) (wk_uns rfl))⟩
theorem sc_Plan_wanted : FnScope ["self", "state", "arm", "step", "_", "point", "held"] ["self", "state", "arm"] (defScope (inClass (topS 5) 7)) := ⟨rfl, rfl, rfl, by decide +kernel, rfl, by decide +kernel, by decide +kernel⟩
theorem b_Plan_wanted (T : Top K mg A) : Binds K A.d_Plan_wanted ["self", "state", "arm"] [] := T.F_Plan_wanted.binds (ps := ["self", "state", "arm"]) fun _ _ _ _ _ _ us hl => match us, hl with | [_, _, _], _ => rfl
def P_Plan_wanted (A : Ads) (ds : List Dt) (d : Dt) : Prop := ∃ (self : Plan) (state : ((List (Int × Str × (Option Str))) × (List Str))) (arm : Int) (r : (Option Plc)), ds = [(d_Plan A) self, (dT2 (dV (dT3 Dt.int Dt.str (dO Dt.str))) (dV Dt.str)) state, .int arm] ∧ m_Plan_wanted self state arm = some r ∧ d = (dO d_Plc) r
set_option maxHeartbeats 4000000 in
theorem ok_Plan_wanted (T : Top K mg A) : FnOk P A.w K mg base CX0 2 A.f_Plan_wanted A.d_Plan_wanted ["self", "state", "arm"] (FSpec K (RD (P_Plan_wanted A))) :=
  fn_D T.F_Plan_wanted sc_Plan_wanted (fun ds d h => by obtain ⟨self, state, arm, r, rfl, _, _⟩ := h; rfl) fun cdv A1 outer s H E hr => ⟨_, pss_cons (ps_set (i := 3) sc_Plan_wanted.nd rfl (by first | exact Or.inl rfl | exact Or.inr rfl) (pe_meth (pv 0) T.cl_Plan T.m_Plan_step_of (ok_Plan_step_of T) (hr.mono (by decide)) (b_Plan_step_of T) .nil pass0 (pa_cons (pv 1) (pa_cons (pv 2) (pa_nil)))))
 (pss_cons (ps_asg (pe_ix ix_tup (pe_ix ix_tup (pv 1) (pe_int) (fun _ _ => rfl)) (pv 2) (fun _ _ => rfl)) (pg_tup rfl (pgs_cons (pg_name (i := 4) sc_Plan_wanted.nd rfl (by first | exact Or.inl rfl | exact Or.inr rfl)) (pgs_cons (pg_name (i := 5) sc_Plan_wanted.nd rfl (by first | exact Or.inl rfl | exact Or.inr rfl)) (pgs_cons (pg_name (i := 6) sc_Plan_wanted.nd rfl (by first | exact Or.inl rfl | exact Or.inr rfl)) (pgs_nil))))))
 (pss_cons (ps_if (pt_cmpR op_isN1 (pv 3) (pe_non) (nomark _)) (pss_cons (ps_ret (pe_non))
 (pss_nil)) (pss_nil))
 (pss_cons (ps_if (pt_cmpR op_eq (pe_ix ix_tup (pv 3) (pe_int) (fun _ _ => rfl)) (pe_str) (nomark _)) (pss_cons (ps_ret (pe_tup (pa_cons (pe_str) (pa_cons (pv 5) (pa_cons (pe_ix ix_tup (pv 3) (pe_int) (fun _ _ => rfl)) (pa_cons (pv 6) (pa_nil)))))))
 (pss_nil)) (pss_nil))
 (pss_cons (ps_ret (pe_ifExp (pt_cmpR op_eq (pe_ix ix_tup (pv 3) (pe_int) (fun _ _ => rfl)) (pe_str) (nomark _)) (pe_tup (pa_cons (pe_str) (pa_cons (pv 5) (pa_cons (pe_ix ix_tup (pv 3) (pe_int) (fun _ _ => rfl)) (pa_nil))))) (pe_non)))
 (pss_nil))))), fun ds d h => by
    obtain ⟨self, state, arm, r, rfl, h, rfl⟩ := h
    unfold m_Plan_wanted at h
    refine ⟨_, List.replicate 7 .un, sm_run (es := [.d ((d_Plan A) self), .d ((dT2 (dV (dT3 Dt.int Dt.str (dO Dt.str))) (dV Dt.str)) state), .d (.int arm), .un, .un, .un, .un]) (oc := fun (r : (Option Plc)) => .rt ((dO d_Plc) r) (List.replicate 7 .un)) h ?_, .inl rfl⟩
    exact sm_one <|
sm_as <|
sm_bind fun t1 h_t1 =>
sm_set (es' := [.d ((d_Plan A) self), .d ((dT2 (dV (dT3 Dt.int Dt.str (dO Dt.str))) (dV Dt.str)) state), .d (.int arm), .d ((dO d_Stp) t1), .un, .un, .un]) (ev_meth (ev_var (i := 0) rfl) rfl (ea_cons (ev_var (i := 1) rfl) (ea_cons (ev_var (i := 2) rfl) (ea_nil))) ⟨self, state, arm, t1, rfl, h_t1, rfl⟩) rfl <|
sm_as <|
sm_bind fun t2 h_t2 =>
sm_asgG (es' := [.d ((d_Plan A) self), .d ((dT2 (dV (dT3 Dt.int Dt.str (dO Dt.str))) (dV Dt.str)) state), .d (.int arm), .d ((dO d_Stp) t1), .d (.int t2.1), .d (.str t2.2.1), .d ((dO Dt.str) t2.2.2)]) (ev_ixTC (em := (dT3 Dt.int Dt.str (dO Dt.str))) (ev_ixNG 0 rfl rfl (ev_var (i := 1) rfl) (ev_int)) (ev_var (i := 2) rfl) h_t2) (eg_tup (egs_cons (eg_name (vs := [4, 5, 6]) (by simp)) (egs_cons (eg_name (vs := [4, 5, 6]) (by simp)) (egs_cons (eg_name (vs := [4, 5, 6]) (by simp)) (egs_nil)))) rfl) <|
sm_as <|
sm_if (et_test (ev_isO (em := d_Stp) (fun x h => by cases x <;> cases h) (ev_var (i := 3) rfl))) (fun hb =>
sm_as <|
sm_some (sev_rt (ev_non) (wk_uns rfl))) (fun hb =>
sm_nil <|
sm_as <|
sm_bind fun o3 h_o3 =>
sm_if (et_test (ev_eqS (ev_ixR (ev_some (em := d_Stp) h_o3 (ev_var (i := 3) rfl)) (ev_int) (d_Stp_word _)) (ev_str))) (fun hb =>
sm_as <|
sm_bind fun o4 h_o4 =>
sm_bind fun t5 h_t5 =>
sm_some (sev_rt (ev_is (ev_tup (ea_cons (ev_str) (ea_cons (ev_var (i := 5) rfl) (ea_cons (ev_ixR (ev_some (em := d_Stp) h_o4 (ev_var (i := 3) rfl)) (ev_int) (d_Stp_at1S h_t5)) (ea_cons (ev_var (i := 6) rfl) (ea_nil))))) (by simp)) rfl) (wk_uns rfl))) (fun hb =>
sm_nil <|
sm_as <|
sm_bind fun o6 h_o6 =>
sm_bind fun t9 h_t9 =>
sm_some (sev_rt (ev_ifC (em := (dO d_Plc)) (et_test (ev_eqS (ev_ixR (ev_some (em := d_Stp) h_o6 (ev_var (i := 3) rfl)) (ev_int) (d_Stp_word _)) (ev_str))) (fun _ => ev_bnd fun o7 h_o7 => ev_bnd fun t8 h_t8 => ev_pure (v := some (Plc.w_rest t2.2.1 t8)) (ev_is (ev_tup (ea_cons (ev_str) (ea_cons (ev_var (i := 5) rfl) (ea_cons (ev_ixR (ev_some (em := d_Stp) h_o7 (ev_var (i := 3) rfl)) (ev_int) (d_Stp_at1O h_t8)) (ea_nil)))) (by simp)) rfl)) (fun _ => ev_pure (v := (none : (Option Plc))) (ev_non)) h_t9) (wk_uns rfl))))⟩
theorem sc_Plan_rest_of : FnScope ["self", "state", "arm", "_", "point", "held"] ["self", "state", "arm"] (defScope (inClass (topS 5) 6)) := ⟨rfl, rfl, rfl, by decide +kernel, rfl, by decide +kernel, by decide +kernel⟩
theorem b_Plan_rest_of (T : Top K mg A) : Binds K A.d_Plan_rest_of ["self", "state", "arm"] [] := T.F_Plan_rest_of.binds (ps := ["self", "state", "arm"]) fun _ _ _ _ _ _ us hl => match us, hl with | [_, _, _], _ => rfl
def P_Plan_rest_of (A : Ads) (ds : List Dt) (d : Dt) : Prop := ∃ (self : Plan) (state : ((List (Int × Str × (Option Str))) × (List Str))) (arm : Int) (r : Plc), ds = [(d_Plan A) self, (dT2 (dV (dT3 Dt.int Dt.str (dO Dt.str))) (dV Dt.str)) state, .int arm] ∧ m_Plan_rest_of self state arm = some r ∧ d = d_Plc r
set_option maxHeartbeats 4000000 in
theorem ok_Plan_rest_of (T : Top K mg A) : FnOk P A.w K mg base CX0 1 A.f_Plan_rest_of A.d_Plan_rest_of ["self", "state", "arm"] (FSpec K (RD (P_Plan_rest_of A))) :=
  fn_D T.F_Plan_rest_of sc_Plan_rest_of (fun ds d h => by obtain ⟨self, state, arm, r, rfl, _, _⟩ := h; rfl) fun cdv A1 outer s H E hr => ⟨_, pss_cons (ps_asg (pe_ix ix_tup (pe_ix ix_tup (pv 1) (pe_int) (fun _ _ => rfl)) (pv 2) (fun _ _ => rfl)) (pg_tup rfl (pgs_cons (pg_name (i := 3) sc_Plan_rest_of.nd rfl (by first | exact Or.inl rfl | exact Or.inr rfl)) (pgs_cons (pg_name (i := 4) sc_Plan_rest_of.nd rfl (by first | exact Or.inl rfl | exact Or.inr rfl)) (pgs_cons (pg_name (i := 5) sc_Plan_rest_of.nd rfl (by first | exact Or.inl rfl | exact Or.inr rfl)) (pgs_nil))))))
 (pss_cons (ps_ret (pe_tup (pa_cons (pe_str) (pa_cons (pv 4) (pa_cons (pv 5) (pa_nil))))))
 (pss_nil)), fun ds d h => by
    obtain ⟨self, state, arm, r, rfl, h, rfl⟩ := h
    unfold m_Plan_rest_of at h
    refine ⟨_, List.replicate 6 .un, sm_run (es := [.d ((d_Plan A) self), .d ((dT2 (dV (dT3 Dt.int Dt.str (dO Dt.str))) (dV Dt.str)) state), .d (.int arm), .un, .un, .un]) (oc := fun (r : Plc) => .rt (d_Plc r) (List.replicate 6 .un)) h ?_, .inl rfl⟩
    exact sm_one <|
sm_as <|
sm_bind fun t1 h_t1 =>
sm_asgG (es' := [.d ((d_Plan A) self), .d ((dT2 (dV (dT3 Dt.int Dt.str (dO Dt.str))) (dV Dt.str)) state), .d (.int arm), .d (.int t1.1), .d (.str t1.2.1), .d ((dO Dt.str) t1.2.2)]) (ev_ixTC (em := (dT3 Dt.int Dt.str (dO Dt.str))) (ev_ixNG 0 rfl rfl (ev_var (i := 1) rfl) (ev_int)) (ev_var (i := 2) rfl) h_t1) (eg_tup (egs_cons (eg_name (vs := [3, 4, 5]) (by simp)) (egs_cons (eg_name (vs := [3, 4, 5]) (by simp)) (egs_cons (eg_name (vs := [3, 4, 5]) (by simp)) (egs_nil)))) rfl) <|
sm_as <|
sm_some (sev_rt (ev_is (ev_tup (ea_cons (ev_str) (ea_cons (ev_var (i := 4) rfl) (ea_cons (ev_var (i := 5) rfl) (ea_nil)))) (by simp)) rfl) (wk_uns rfl))⟩
theorem sc_Plan_is_clear : FnScope ["self", "arm", "place", "other", "other_place"] ["self", "arm", "place", "other", "other_place"] (defScope (inClass (topS 5) 1)) := ⟨rfl, rfl, rfl, by decide +kernel, rfl, by decide +kernel, by decide +kernel⟩
theorem b_Plan_is_clear (T : Top K mg A) : Binds K A.d_Plan_is_clear ["self", "arm", "place", "other", "other_place"] [] := T.F_Plan_is_clear.binds (ps := ["self", "arm", "place", "other", "other_place"]) fun _ _ _ _ _ _ us hl => match us, hl with | [_, _, _, _, _], _ => rfl
def P_Plan_is_clear (A : Ads) (ds : List Dt) (d : Dt) : Prop := ∃ (self : Plan) (arm : Int) (place : Plc) (other : Int) (other_place : Plc) (r : Bool), ds = [(d_Plan A) self, .int arm, d_Plc place, .int other, d_Plc other_place] ∧ m_Plan_is_clear self arm place other other_place = some r ∧ d = .bl r
set_option maxHeartbeats 4000000 in
theorem ok_Plan_is_clear (T : Top K mg A) : FnOk P A.w K mg base CX0 1 A.f_Plan_is_clear A.d_Plan_is_clear ["self", "arm", "place", "other", "other_place"] (FSpec K (RD (P_Plan_is_clear A))) :=
  fn_D T.F_Plan_is_clear sc_Plan_is_clear (fun ds d h => by obtain ⟨self, arm, place, other, other_place, r, rfl, _, _⟩ := h; rfl) fun cdv A1 outer s H E hr => ⟨_, pss_cons (ps_ret (pe_cmpR (or_nnin hr) (pe_tup (pa_cons (pv 1) (pa_cons (pv 2) (pa_cons (pv 3) (pa_cons (pv 4) (pa_nil)))))) (pe_fld (pv 0) (by rfl)) (by with_unfolding_all rfl)))
 (pss_nil), fun ds d h => by
    obtain ⟨self, arm, place, other, other_place, r, rfl, h, rfl⟩ := h
    unfold m_Plan_is_clear at h
    refine ⟨_, List.replicate 5 .un, sm_run (es := [.d ((d_Plan A) self), .d (.int arm), .d (d_Plc place), .d (.int other), .d (d_Plc other_place)]) (oc := fun (r : Bool) => .rt (.bl r) (List.replicate 5 .un)) h ?_, .inl rfl⟩
    exact sm_one <|
sm_as <|
sm_bind fun t1 h_t1 =>
sm_some (sev_rt (ev_nin (neg := true) (ev_tup (ea_cons (ev_var (i := 1) rfl) (ea_cons (ev_var (i := 2) rfl) (ea_cons (ev_var (i := 3) rfl) (ea_cons (ev_var (i := 4) rfl) (ea_nil))))) (by simp)) (ev_fld (ev_var (i := 0) rfl) T.cl_Plan T.n_Plan_blocks rfl) h_t1) (wk_uns rfl))⟩
theorem sc_Plan_hindered_by : FnScope ["self", "state", "arm", "place", "other"] ["self", "state", "arm"] (defScope (inClass (topS 5) 8)) := ⟨rfl, rfl, rfl, by decide +kernel, rfl, by decide +kernel, by decide +kernel⟩
theorem b_Plan_hindered_by (T : Top K mg A) : Binds K A.d_Plan_hindered_by ["self", "state", "arm"] [] := T.F_Plan_hindered_by.binds (ps := ["self", "state", "arm"]) fun _ _ _ _ _ _ us hl => match us, hl with | [_, _, _], _ => rfl
def P_Plan_hindered_by (A : Ads) (ds : List Dt) (d : Dt) : Prop := ∃ (self : Plan) (state : ((List (Int × Str × (Option Str))) × (List Str))) (arm : Int) (r : (Option Int)), ds = [(d_Plan A) self, (dT2 (dV (dT3 Dt.int Dt.str (dO Dt.str))) (dV Dt.str)) state, .int arm] ∧ m_Plan_hindered_by self state arm = some r ∧ d = (dO Dt.int) r
set_option maxHeartbeats 4000000 in
theorem ok_Plan_hindered_by (T : Top K mg A) : FnOk P A.w K mg base CX0 3 A.f_Plan_hindered_by A.d_Plan_hindered_by ["self", "state", "arm"] (FSpec K (RD (P_Plan_hindered_by A))) :=
  fn_D T.F_Plan_hindered_by sc_Plan_hindered_by (fun ds d h => by obtain ⟨self, state, arm, r, rfl, _, _⟩ := h; rfl) fun cdv A1 outer s H E hr => ⟨_, pss_cons (ps_set (i := 3) sc_Plan_hindered_by.nd rfl (by first | exact Or.inl rfl | exact Or.inr rfl) (pe_meth (pv 0) T.cl_Plan T.m_Plan_wanted (ok_Plan_wanted T) (hr.mono (by decide)) (b_Plan_wanted T) .nil pass0 (pa_cons (pv 1) (pa_cons (pv 2) (pa_nil)))))
 (pss_cons (ps_if (pt_cmpR op_isN1 (pv 3) (pe_non) (nomark _)) (pss_cons (ps_ret (pe_non))
 (pss_nil)) (pss_nil))
 (pss_cons (ps_for PassesOwn.never rfl (pi_range1 (by rfl) T.z_range (pa_cons (pe_callB cr_lenS (by rfl) T.z_len bt_len (pa_cons (pe_fld (pv 0) (by rfl)) (pa_nil))) (pa_nil))) (pg_name (i := 4) sc_Plan_hindered_by.nd rfl (by first | exact Or.inl rfl | exact Or.inr rfl)) (pss_cons (ps_if (PW.pt (pw_and (pt_cmpR op_ne (pv 4) (pv 2) (nomark _)) (pw_and1 (pt_not (pt_val (pe_meth (pv 0) T.cl_Plan T.m_Plan_is_clear (ok_Plan_is_clear T) (hr.mono (by decide)) (b_Plan_is_clear T) .nil pass0 (pa_cons (pv 2) (pa_cons (pv 3) (pa_cons (pv 4) (pa_cons (pe_meth (pv 0) T.cl_Plan T.m_Plan_rest_of (ok_Plan_rest_of T) (hr.mono (by decide)) (b_Plan_rest_of T) .nil pass0 (pa_cons (pv 1) (pa_cons (pv 4) (pa_nil)))) (pa_nil))))))))))) (pss_cons (ps_ret (pv 4))
 (pss_nil)) (pss_nil))
 (pss_nil)))
 (pss_cons (ps_ret (pe_non))
 (pss_nil)))), fun ds d h => by
    obtain ⟨self, state, arm, r, rfl, h, rfl⟩ := h
    unfold m_Plan_hindered_by at h
    refine ⟨_, List.replicate 5 .un, sm_run (es := [.d ((d_Plan A) self), .d ((dT2 (dV (dT3 Dt.int Dt.str (dO Dt.str))) (dV Dt.str)) state), .d (.int arm), .un, .un]) (oc := fun (r : (Option Int)) => .rt ((dO Dt.int) r) (List.replicate 5 .un)) h ?_, .inl rfl⟩
    exact sm_one <|
sm_as <|
sm_bind fun t1 h_t1 =>
sm_set (es' := [.d ((d_Plan A) self), .d ((dT2 (dV (dT3 Dt.int Dt.str (dO Dt.str))) (dV Dt.str)) state), .d (.int arm), .d ((dO d_Plc) t1), .un]) (ev_meth (ev_var (i := 0) rfl) rfl (ea_cons (ev_var (i := 1) rfl) (ea_cons (ev_var (i := 2) rfl) (ea_nil))) ⟨self, state, arm, t1, rfl, h_t1, rfl⟩) rfl <|
sm_as <|
sm_if (et_test (ev_isO (em := d_Plc) (fun x h => by cases x <;> cases h) (ev_var (i := 3) rfl))) (fun hb =>
sm_as <|
sm_some (sev_rt (ev_non) (wk_uns rfl))) (fun hb =>
sm_nil <|
sm_as <|
sm_bind fun r2 h_r2 =>
sm_thenF (env := fun (s : Unit) => [.d ((d_Plan A) self), .d ((dT2 (dV (dT3 Dt.int Dt.str (dO Dt.str))) (dV Dt.str)) state), .d (.int arm), .d ((dO d_Plc) t1), .un]) (ed := fun r => (dO Dt.int) r) (ee := fun _ => List.replicate 5 .un) (sm_for (xs := r2) (em := Dt.int) (env := fun (s : Unit) => [.d ((d_Plan A) self), .d ((dT2 (dV (dT3 Dt.int Dt.str (dO Dt.str))) (dV Dt.str)) state), .d (.int arm), .d ((dO d_Plc) t1), .un]) (en2 := fun (other4 : Int) (s3 : Unit) => [.d ((d_Plan A) self), .d ((dT2 (dV (dT3 Dt.int Dt.str (dO Dt.str))) (dV Dt.str)) state), .d (.int arm), .d ((dO d_Plc) t1), .d (.int other4)]) (ei_rng1 (ea_cons (ev_lenLm (ev_fld (ev_var (i := 0) rfl) T.cl_Plan T.n_Plan_flows rfl)) (ea_nil)) h_r2) (wk_e <| wk_e <| wk_e <| wk_e <| wk_u <| wk_n) (fun other4 s3 => eg_name (vs := [4]) (by simp)) fun other4 s3 h_other4 => sm_one <|
sm_as <|
sm_bind fun b8 h_b8 =>
sm_if (et_andC (et_test (ev_neI (ev_var (i := 4) rfl) (ev_var (i := 2) rfl))) (fun _ => et_bnd fun t5 h_t5 => et_bnd fun o6 h_o6 => et_bnd fun t7 h_t7 => et_pure (et_not (et_B (ev_meth (ev_var (i := 0) rfl) rfl (ea_cons (ev_var (i := 2) rfl) (ea_cons (ev_some (em := d_Plc) h_o6 (ev_var (i := 3) rfl)) (ea_cons (ev_var (i := 4) rfl) (ea_cons (ev_meth (ev_var (i := 0) rfl) rfl (ea_cons (ev_var (i := 1) rfl) (ea_cons (ev_var (i := 4) rfl) (ea_nil))) ⟨self, state, other4, t5, rfl, h_t5, rfl⟩) (ea_nil))))) ⟨self, arm, o6, other4, t5, t7, rfl, h_t7, rfl⟩)))) h_b8) (fun hb =>
sm_as <|
sm_some (sev_rt (ev_var (i := 4) rfl) (wk_uns rfl))) (fun hb =>
sm_nil <|
sm_nil <|
sm_some (sev_go (wk_e <| wk_e <| wk_e <| wk_e <| wk_u <| wk_n)))) (fun s9 =>
sm_as <|
sm_some (sev_rt (ev_non) (wk_uns rfl))) (fun _ => rfl))⟩
theorem sc_Plan_can_step : FnScope ["self", "state", "arm", "step"] ["self", "state", "arm"] (defScope (inClass (topS 5) 9)) := ⟨rfl, rfl, rfl, by decide +kernel, rfl, by decide +kernel, by decide +kernel⟩
theorem b_Plan_can_step (T : Top K mg A) : Binds K A.d_Plan_can_step ["self", "state", "arm"] [] := T.F_Plan_can_step.binds (ps := ["self", "state", "arm"]) fun _ _ _ _ _ _ us hl => match us, hl with | [_, _, _], _ => rfl
def P_Plan_can_step (A : Ads) (ds : List Dt) (d : Dt) : Prop := ∃ (self : Plan) (state : ((List (Int × Str × (Option Str))) × (List Str))) (arm : Int) (r : Bool), ds = [(d_Plan A) self, (dT2 (dV (dT3 Dt.int Dt.str (dO Dt.str))) (dV Dt.str)) state, .int arm] ∧ m_Plan_can_step self state arm = some r ∧ d = .bl r
set_option maxHeartbeats 4000000 in
theorem ok_Plan_can_step (T : Top K mg A) : FnOk P A.w K mg base CX0 4 A.f_Plan_can_step A.d_Plan_can_step ["self", "state", "arm"] (FSpec K (RD (P_Plan_can_step A))) :=
  fn_D T.F_Plan_can_step sc_Plan_can_step (fun ds d h => by obtain ⟨self, state, arm, r, rfl, _, _⟩ := h; rfl) fun cdv A1 outer s H E hr => ⟨_, pss_cons (ps_set (i := 3) sc_Plan_can_step.nd rfl (by first | exact Or.inl rfl | exact Or.inr rfl) (pe_meth (pv 0) T.cl_Plan T.m_Plan_step_of (ok_Plan_step_of T) (hr.mono (by decide)) (b_Plan_step_of T) .nil pass0 (pa_cons (pv 1) (pa_cons (pv 2) (pa_nil)))))
 (pss_cons (ps_if (pt_cmpR op_isN1 (pv 3) (pe_non) (nomark _)) (pss_cons (ps_ret (pe_bl))
 (pss_nil)) (pss_nil))
 (pss_cons (ps_if (pt_cmpR op_eq (pe_ix ix_tup (pv 3) (pe_int) (fun _ _ => rfl)) (pe_str) (nomark _)) (pss_cons (ps_ret (pe_cmpR op_eq (pe_cmpR op_in_seq (pe_ix ix_tup (pv 3) (pe_int) (fun _ _ => rfl)) (pe_ix ix_tup (pv 1) (pe_int) (fun _ _ => rfl)) (by with_unfolding_all rfl)) (pe_ix ix_tup (pv 3) (pe_int) (fun _ _ => rfl)) (nomark _)))
 (pss_nil)) (pss_nil))
 (pss_cons (ps_ret (pe_cmpR op_isN1 (pe_meth (pv 0) T.cl_Plan T.m_Plan_hindered_by (ok_Plan_hindered_by T) (hr.mono (by decide)) (b_Plan_hindered_by T) .nil pass0 (pa_cons (pv 1) (pa_cons (pv 2) (pa_nil)))) (pe_non) (nomark _)))
 (pss_nil)))), fun ds d h => by
    obtain ⟨self, state, arm, r, rfl, h, rfl⟩ := h
    unfold m_Plan_can_step at h
    refine ⟨_, List.replicate 4 .un, sm_run (es := [.d ((d_Plan A) self), .d ((dT2 (dV (dT3 Dt.int Dt.str (dO Dt.str))) (dV Dt.str)) state), .d (.int arm), .un]) (oc := fun (r : Bool) => .rt (.bl r) (List.replicate 4 .un)) h ?_, .inl rfl⟩
    exact sm_one <|
sm_as <|
sm_bind fun t1 h_t1 =>
sm_set (es' := [.d ((d_Plan A) self), .d ((dT2 (dV (dT3 Dt.int Dt.str (dO Dt.str))) (dV Dt.str)) state), .d (.int arm), .d ((dO d_Stp) t1)]) (ev_meth (ev_var (i := 0) rfl) rfl (ea_cons (ev_var (i := 1) rfl) (ea_cons (ev_var (i := 2) rfl) (ea_nil))) ⟨self, state, arm, t1, rfl, h_t1, rfl⟩) rfl <|
sm_as <|
sm_if (et_test (ev_isO (em := d_Stp) (fun x h => by cases x <;> cases h) (ev_var (i := 3) rfl))) (fun hb =>
sm_as <|
sm_some (sev_rt (ev_bl) (wk_uns rfl))) (fun hb =>
sm_nil <|
sm_as <|
sm_bind fun o2 h_o2 =>
sm_if (et_test (ev_eqS (ev_ixR (ev_some (em := d_Stp) h_o2 (ev_var (i := 3) rfl)) (ev_int) (d_Stp_word _)) (ev_str))) (fun hb =>
sm_as <|
sm_bind fun o3 h_o3 =>
sm_bind fun t4 h_t4 =>
sm_bind fun o5 h_o5 =>
sm_bind fun t6 h_t6 =>
sm_some (sev_rt (ev_eqB (ev_inTS (xs := state.2) (ev_ixR (ev_some (em := d_Stp) h_o3 (ev_var (i := 3) rfl)) (ev_int) (d_Stp_at1S h_t4)) (ev_ixNG 1 rfl rfl (ev_var (i := 1) rfl) (ev_int))) (ev_ixR (ev_some (em := d_Stp) h_o5 (ev_var (i := 3) rfl)) (ev_int) (d_Stp_at2B h_t6))) (wk_uns rfl))) (fun hb =>
sm_nil <|
sm_as <|
sm_bind fun t7 h_t7 =>
sm_some (sev_rt (ev_isO (em := Dt.int) (fun _ h => nomatch h) (ev_meth (ev_var (i := 0) rfl) rfl (ea_cons (ev_var (i := 1) rfl) (ea_cons (ev_var (i := 2) rfl) (ea_nil))) ⟨self, state, arm, t7, rfl, h_t7, rfl⟩)) (wk_uns rfl))))⟩
theorem sc_first_stepper : FnScope ["plan", "state", "arm"] ["plan", "state"] (defScope (topS 2)) := ⟨rfl, rfl, rfl, by decide +kernel, rfl, by decide +kernel, by decide +kernel⟩
theorem b_first_stepper (T : Top K mg A) : Binds K A.d_first_stepper ["plan", "state"] [] := T.F_first_stepper.binds (ps := ["plan", "state"]) fun _ _ _ _ _ _ us hl => match us, hl with | [_, _], _ => rfl
def P_first_stepper (A : Ads) (ds : List Dt) (d : Dt) : Prop := ∃ (plan : Plan) (state : ((List (Int × Str × (Option Str))) × (List Str))) (r : (Option Int)), ds = [(d_Plan A) plan, (dT2 (dV (dT3 Dt.int Dt.str (dO Dt.str))) (dV Dt.str)) state] ∧ m_first_stepper plan state = some r ∧ d = (dO Dt.int) r
set_option maxHeartbeats 4000000 in
theorem ok_first_stepper (T : Top K mg A) : FnOk P A.w K mg base CX0 5 A.f_first_stepper A.d_first_stepper ["plan", "state"] (FSpec K (RD (P_first_stepper A))) :=
  fn_D T.F_first_stepper sc_first_stepper (fun ds d h => by obtain ⟨plan, state, r, rfl, _, _⟩ := h; rfl) fun cdv A1 outer s H E hr => ⟨_, pss_cons (ps_for PassesOwn.never rfl (pi_range1 (by rfl) T.z_range (pa_cons (pe_callB cr_lenS (by rfl) T.z_len bt_len (pa_cons (pe_fld (pv 0) (by rfl)) (pa_nil))) (pa_nil))) (pg_name (i := 2) sc_first_stepper.nd rfl (by first | exact Or.inl rfl | exact Or.inr rfl)) (pss_cons (ps_if (pt_val (pe_meth (pv 0) T.cl_Plan T.m_Plan_can_step (ok_Plan_can_step T) (hr.mono (by decide)) (b_Plan_can_step T) .nil pass0 (pa_cons (pv 1) (pa_cons (pv 2) (pa_nil))))) (pss_cons (ps_ret (pv 2))
 (pss_nil)) (pss_nil))
 (pss_nil)))
 (pss_cons (ps_ret (pe_non))
 (pss_nil)), fun ds d h => by
    obtain ⟨plan, state, r, rfl, h, rfl⟩ := h
    unfold m_first_stepper at h
    refine ⟨_, List.replicate 3 .un, sm_run (es := [.d ((d_Plan A) plan), .d ((dT2 (dV (dT3 Dt.int Dt.str (dO Dt.str))) (dV Dt.str)) state), .un]) (oc := fun (r : (Option Int)) => .rt ((dO Dt.int) r) (List.replicate 3 .un)) h ?_, .inl rfl⟩
    exact sm_one <|
sm_as <|
sm_bind fun r1 h_r1 =>
sm_thenF (env := fun (s : Unit) => [.d ((d_Plan A) plan), .d ((dT2 (dV (dT3 Dt.int Dt.str (dO Dt.str))) (dV Dt.str)) state), .un]) (ed := fun r => (dO Dt.int) r) (ee := fun _ => List.replicate 3 .un) (sm_for (xs := r1) (em := Dt.int) (env := fun (s : Unit) => [.d ((d_Plan A) plan), .d ((dT2 (dV (dT3 Dt.int Dt.str (dO Dt.str))) (dV Dt.str)) state), .un]) (en2 := fun (arm3 : Int) (s2 : Unit) => [.d ((d_Plan A) plan), .d ((dT2 (dV (dT3 Dt.int Dt.str (dO Dt.str))) (dV Dt.str)) state), .d (.int arm3)]) (ei_rng1 (ea_cons (ev_lenLm (ev_fld (ev_var (i := 0) rfl) T.cl_Plan T.n_Plan_flows rfl)) (ea_nil)) h_r1) (wk_e <| wk_e <| wk_u <| wk_n) (fun arm3 s2 => eg_name (vs := [2]) (by simp)) fun arm3 s2 h_arm3 => sm_one <|
sm_as <|
sm_bind fun t4 h_t4 =>
sm_if (et_B (ev_meth (ev_var (i := 0) rfl) rfl (ea_cons (ev_var (i := 1) rfl) (ea_cons (ev_var (i := 2) rfl) (ea_nil))) ⟨plan, state, arm3, t4, rfl, h_t4, rfl⟩)) (fun hb =>
sm_as <|
sm_some (sev_rt (ev_var (i := 2) rfl) (wk_uns rfl))) (fun hb =>
sm_nil <|
sm_nil <|
sm_some (sev_go (wk_e <| wk_e <| wk_u <| wk_n)))) (fun s5 =>
sm_as <|
sm_some (sev_rt (ev_non) (wk_uns rfl))) (fun _ => rfl)⟩
theorem sc_what_holds_up : FnScope ["plan", "state", "chain", "arm", "step", "other"] ["plan", "state"] (defScope (topS 3)) := ⟨rfl, rfl, rfl, by decide +kernel, rfl, by decide +kernel, by decide +kernel⟩
theorem b_what_holds_up (T : Top K mg A) : Binds K A.d_what_holds_up ["plan", "state"] [] := T.F_what_holds_up.binds (ps := ["plan", "state"]) fun _ _ _ _ _ _ us hl => match us, hl with | [_, _], _ => rfl
def P_what_holds_up (A : Ads) (ds : List Dt) (d : Dt) : Prop := ∃ (plan : Plan) (state : ((List (Int × Str × (Option Str))) × (List Str))) (r : (Option Hld)), ds = [(d_Plan A) plan, (dT2 (dV (dT3 Dt.int Dt.str (dO Dt.str))) (dV Dt.str)) state] ∧ m_what_holds_up plan state = some r ∧ d = (dO d_Hld) r
set_option maxHeartbeats 4000000 in
theorem ok_what_holds_up (T : Top K mg A) : FnOk P A.w K mg base CX0 6 A.f_what_holds_up A.d_what_holds_up ["plan", "state"] (FSpec K (RD (P_what_holds_up A))) :=
  fn_D T.F_what_holds_up sc_what_holds_up (fun ds d h => by obtain ⟨plan, state, r, rfl, _, _⟩ := h; rfl) fun cdv A1 outer s H E hr => ⟨_, pss_cons (ps_if (PW.pt (pw_or (pt_val (pe_meth (pv 0) T.cl_Plan T.m_Plan_all_ended (ok_Plan_all_ended T) (hr.mono (by decide)) (b_Plan_all_ended T) .nil pass0 (pa_cons (pv 1) (pa_nil)))) (pw_or1 (pt_cmpR op_notN1 (pe_call (ok_first_stepper T) (hr.mono (by decide)) (by rfl) T.g_first_stepper T.F_first_stepper.kp (b_first_stepper T) .nil pass0 (pa_cons (pv 0) (pa_cons (pv 1) (pa_nil)))) (pe_non) (nomark _))))) (pss_cons (ps_ret (pe_non))
 (pss_nil)) (pss_nil))
 (pss_cons (ps_set (i := 2) sc_what_holds_up.nd rfl (by first | exact Or.inl rfl | exact Or.inr rfl) (pe_lst (pa_nil)))
 (pss_cons (ps_for PassesOwn.never rfl (pi_range1 (by rfl) T.z_range (pa_cons (pe_callB cr_lenS (by rfl) T.z_len bt_len (pa_cons (pe_fld (pv 0) (by rfl)) (pa_nil))) (pa_nil))) (pg_name (i := 3) sc_what_holds_up.nd rfl (by first | exact Or.inl rfl | exact Or.inr rfl)) (pss_cons (ps_if (PW.pt (pw_and (pt_cmpR op_eq (pe_callB cr_lenS (by rfl) T.z_len bt_len (pa_cons (pv 2) pa_nil)) (pe_int) (nomark _)) (pw_and1 (pt_not (pt_val (pe_meth (pv 0) T.cl_Plan T.m_Plan_has_ended (ok_Plan_has_ended T) (hr.mono (by decide)) (b_Plan_has_ended T) .nil pass0 (pa_cons (pv 1) (pa_cons (pv 3) (pa_nil))))))))) (pss_cons (ps_expr (pe_bm PySem.F.plainAttrs_list PySem.F.slot_list_append PySem.F.type_list_append mt_append (pv 2) (pa_cons (pv 3) pa_nil)))
 (pss_nil)) (pss_nil))
 (pss_nil)))
 (pss_cons (ps_while PassesOwn.never (pt_val (pe_bl)) (pss_cons (ps_set (i := 3) sc_what_holds_up.nd rfl (by first | exact Or.inl rfl | exact Or.inr rfl) (pe_ix ix_list (pv 2) (pe_un un_neg pe_int) (fun _ _ => rfl)))
 (pss_cons (ps_set (i := 4) sc_what_holds_up.nd rfl (by first | exact Or.inl rfl | exact Or.inr rfl) (pe_meth (pv 0) T.cl_Plan T.m_Plan_step_of (ok_Plan_step_of T) (hr.mono (by decide)) (b_Plan_step_of T) .nil pass0 (pa_cons (pv 1) (pa_cons (pv 3) (pa_nil)))))
 (pss_cons (ps_if (pt_cmpR op_isN1 (pv 4) (pe_non) (nomark _)) (pss_cons (ps_ret (pe_tup (pa_cons (pe_str) (pa_cons (pe_ix ix_list (pv 2) (pe_un un_neg pe_int) (fun _ _ => rfl)) (pa_cons (pv 3) (pa_nil))))))
 (pss_nil)) (pss_nil))
 (pss_cons (ps_if (pt_cmpR op_eq (pe_ix ix_tup (pv 4) (pe_int) (fun _ _ => rfl)) (pe_str) (nomark _)) (pss_cons (ps_ret (pe_tup (pa_cons (pe_str) (pa_cons (pv 3) (pa_cons (pe_ix ix_tup (pv 4) (pe_int) (fun _ _ => rfl)) (pa_cons (pe_ix ix_tup (pv 4) (pe_int) (fun _ _ => rfl)) (pa_nil)))))))
 (pss_nil)) (pss_nil))
 (pss_cons (ps_set (i := 5) sc_what_holds_up.nd rfl (by first | exact Or.inl rfl | exact Or.inr rfl) (pe_meth (pv 0) T.cl_Plan T.m_Plan_hindered_by (ok_Plan_hindered_by T) (hr.mono (by decide)) (b_Plan_hindered_by T) .nil pass0 (pa_cons (pv 1) (pa_cons (pv 3) (pa_nil)))))
 (pss_cons (ps_if (pt_cmpR op_in_seq (pv 5) (pv 2) (by with_unfolding_all rfl)) (pss_cons (ps_ret (pe_tup (pa_cons (pe_str) (pa_cons (pe_slice sl_list (pv 2) (po_some (pe_bm PySem.F.plainAttrs_list PySem.F.slot_list_index PySem.F.type_list_index mt_index (pv 2) (pa_cons (pv 5) pa_nil))) (po_none)) (pa_nil)))))
 (pss_nil)) (pss_nil))
 (pss_cons (ps_expr (pe_bm PySem.F.plainAttrs_list PySem.F.slot_list_append PySem.F.type_list_append mt_append (pv 2) (pa_cons (pv 5) pa_nil)))
 (pss_nil)))))))))
 (pss_nil)))), fun ds d h => by
    obtain ⟨plan, state, r, rfl, h, rfl⟩ := h
    unfold m_what_holds_up at h
    refine ⟨_, List.replicate 6 .un, sm_run (es := [.d ((d_Plan A) plan), .d ((dT2 (dV (dT3 Dt.int Dt.str (dO Dt.str))) (dV Dt.str)) state), .un, .un, .un, .un]) (oc := fun (r : (Option Hld)) => .rt ((dO d_Hld) r) (List.replicate 6 .un)) h ?_, .inl rfl⟩
    exact sm_one <|
sm_as <|
sm_bind fun t1 h_t1 =>
sm_bind fun b3 h_b3 =>
sm_if (et_orC (et_B (ev_meth (ev_var (i := 0) rfl) rfl (ea_cons (ev_var (i := 1) rfl) (ea_nil)) ⟨plan, state, t1, rfl, h_t1, rfl⟩)) (fun _ => et_bnd fun t2 h_t2 => et_pure (et_test (ev_nisO (em := Dt.int) (fun _ h => nomatch h) (ev_call (ea_cons (ev_var (i := 0) rfl) (ea_cons (ev_var (i := 1) rfl) (ea_nil))) ⟨plan, state, t2, rfl, h_t2, rfl⟩)))) h_b3) (fun hb =>
sm_as <|
sm_some (sev_rt (ev_non) (wk_uns rfl))) (fun hb =>
sm_nil <|
sm_as <|
sm_lt fun chain4 h_chain4 =>
sm_own (es' := [.d ((d_Plan A) plan), .d ((dT2 (dV (dT3 Dt.int Dt.str (dO Dt.str))) (dV Dt.str)) state), .own none (List.map Dt.int chain4), .un, .un, .un]) (el_is (el_lst (ds := List.map Dt.int []) (ea_nil) (by simp)) (congrArg (List.map Dt.int) h_chain4)) rfl <|
sm_as <|
sm_bind fun r5 h_r5 =>
sm_seq (env := fun (s : (List Int)) => [.d ((d_Plan A) plan), .d ((dT2 (dV (dT3 Dt.int Dt.str (dO Dt.str))) (dV Dt.str)) state), .own none (List.map Dt.int s), .un, .un, .un]) (sm_forL (xs := r5) (em := Dt.int) (env := fun (s : (List Int)) => [.d ((d_Plan A) plan), .d ((dT2 (dV (dT3 Dt.int Dt.str (dO Dt.str))) (dV Dt.str)) state), .own none (List.map Dt.int s), .un, .un, .un]) (en2 := fun (arm7 : Int) (s6 : (List Int)) => [.d ((d_Plan A) plan), .d ((dT2 (dV (dT3 Dt.int Dt.str (dO Dt.str))) (dV Dt.str)) state), .own none (List.map Dt.int s6), .d (.int arm7), .un, .un]) (ei_rng1 (ea_cons (ev_lenLm (ev_fld (ev_var (i := 0) rfl) T.cl_Plan T.n_Plan_flows rfl)) (ea_nil)) h_r5) (wk_e <| wk_e <| wk_e <| wk_u <| wk_u <| wk_u <| wk_n) (fun arm7 s6 => eg_name (vs := [3]) (by simp)) fun arm7 s6 h_arm7 => sm_one <|
sm_as <|
sm_bind fun b9 h_b9 =>
sm_seq (env := fun (s : (List Int)) => [.d ((d_Plan A) plan), .d ((dT2 (dV (dT3 Dt.int Dt.str (dO Dt.str))) (dV Dt.str)) state), .own none (List.map Dt.int s), .d (.int arm7), .un, .un]) (sm_one <| sm_if (et_andC (et_test (ev_eqI (ev_lenO (i := 2) rfl) (ev_int))) (fun _ => et_bnd fun t8 h_t8 => et_pure (et_not (et_B (ev_meth (ev_var (i := 0) rfl) rfl (ea_cons (ev_var (i := 1) rfl) (ea_cons (ev_var (i := 3) rfl) (ea_nil))) ⟨plan, state, arm7, t8, rfl, h_t8, rfl⟩)))) h_b9) (fun hb =>
sm_as <|
sm_bind fun chain10 h_chain10 =>
sm_app (i := 2) (x := arm7) (es' := [.d ((d_Plan A) plan), .d ((dT2 (dV (dT3 Dt.int Dt.str (dO Dt.str))) (dV Dt.str)) state), .own none (List.map Dt.int chain10), .d (.int arm7), .un, .un]) (em := Dt.int) rfl (ev_var (i := 3) rfl) h_chain10 rfl <|
sm_nil <|
sm_some (sev_nx (wk_e <| wk_e <| wk_e <| wk_e <| wk_u <| wk_u <| wk_n))) (fun hb =>
sm_nil <|
sm_some (sev_nx (wk_e <| wk_e <| wk_e <| wk_e <| wk_u <| wk_u <| wk_n)))) fun s11 h_s11 =>
sm_nil <|
sm_some (sev_go (wk_e <| wk_e <| wk_e <| wk_u <| wk_u <| wk_u <| wk_n))) fun s12 h_s12 =>
sm_as <|
sm_thenF (env := fun (s : (List Int)) => [.d ((d_Plan A) plan), .d ((dT2 (dV (dT3 Dt.int Dt.str (dO Dt.str))) (dV Dt.str)) state), .own none (List.map Dt.int s), .un, .un, .un]) (ed := fun r => (dO d_Hld) r) (ee := fun _ => List.replicate 6 .un) (sm_while (env := fun (s : (List Int)) => [.d ((d_Plan A) plan), .d ((dT2 (dV (dT3 Dt.int Dt.str (dO Dt.str))) (dV Dt.str)) state), .own none (List.map Dt.int s), .un, .un, .un]) (wk_e <| wk_e <| wk_e <| wk_u <| wk_u <| wk_u <| wk_n) (fun s13 => et_pure (et_B (ev_bl))) fun s13 => sm_one <|
sm_as <|
sm_bind fun t14 h_t14 =>
sm_set (es' := [.d ((d_Plan A) plan), .d ((dT2 (dV (dT3 Dt.int Dt.str (dO Dt.str))) (dV Dt.str)) state), .own none (List.map Dt.int s13), .d (.int t14), .un, .un]) (ev_ixOC (j := 2) (em := Dt.int) rfl (ev_neg ev_int) h_t14) rfl <|
sm_as <|
sm_bind fun t15 h_t15 =>
sm_set (es' := [.d ((d_Plan A) plan), .d ((dT2 (dV (dT3 Dt.int Dt.str (dO Dt.str))) (dV Dt.str)) state), .own none (List.map Dt.int s13), .d (.int t14), .d ((dO d_Stp) t15), .un]) (ev_meth (ev_var (i := 0) rfl) rfl (ea_cons (ev_var (i := 1) rfl) (ea_cons (ev_var (i := 3) rfl) (ea_nil))) ⟨plan, state, t14, t15, rfl, h_t15, rfl⟩) rfl <|
sm_as <|
sm_if (et_test (ev_isO (em := d_Stp) (fun x h => by cases x <;> cases h) (ev_var (i := 4) rfl))) (fun hb =>
sm_as <|
sm_bind fun t16 h_t16 =>
sm_some (sev_rt (ev_is (ev_tup (ea_cons (ev_str) (ea_cons (ev_ixOC (j := 2) (em := Dt.int) rfl (ev_neg ev_int) h_t16) (ea_cons (ev_var (i := 3) rfl) (ea_nil)))) (by simp)) rfl) (wk_uns rfl))) (fun hb =>
sm_nil <|
sm_as <|
sm_bind fun o17 h_o17 =>
sm_if (et_test (ev_eqS (ev_ixR (ev_some (em := d_Stp) h_o17 (ev_var (i := 4) rfl)) (ev_int) (d_Stp_word _)) (ev_str))) (fun hb =>
sm_as <|
sm_bind fun o18 h_o18 =>
sm_bind fun t19 h_t19 =>
sm_bind fun o20 h_o20 =>
sm_bind fun t21 h_t21 =>
sm_some (sev_rt (ev_is (ev_tup (ea_cons (ev_str) (ea_cons (ev_var (i := 3) rfl) (ea_cons (ev_ixR (ev_some (em := d_Stp) h_o18 (ev_var (i := 4) rfl)) (ev_int) (d_Stp_at1S h_t19)) (ea_cons (ev_ixR (ev_some (em := d_Stp) h_o20 (ev_var (i := 4) rfl)) (ev_int) (d_Stp_at2B h_t21)) (ea_nil))))) (by simp)) rfl) (wk_uns rfl))) (fun hb =>
sm_nil <|
sm_as <|
sm_bind fun t22 h_t22 =>
sm_set (es' := [.d ((d_Plan A) plan), .d ((dT2 (dV (dT3 Dt.int Dt.str (dO Dt.str))) (dV Dt.str)) state), .own none (List.map Dt.int s13), .d (.int t14), .d ((dO d_Stp) t15), .d ((dO Dt.int) t22)]) (ev_meth (ev_var (i := 0) rfl) rfl (ea_cons (ev_var (i := 1) rfl) (ea_cons (ev_var (i := 3) rfl) (ea_nil))) ⟨plan, state, t14, t22, rfl, h_t22, rfl⟩) rfl <|
sm_as <|
sm_bind fun o23 h_o23 =>
sm_if (et_test (ev_borrow (es' := [.d ((d_Plan A) plan), .d ((dT2 (dV (dT3 Dt.int Dt.str (dO Dt.str))) (dV Dt.str)) state), .d (.lst (List.map Dt.int s13)), .d (.int t14), .d ((dO d_Stp) t15), .d ((dO Dt.int) t22)]) ⟨.inr (.inl ⟨rfl, rfl⟩), .inr (.inl ⟨rfl, rfl⟩), .inr (.inr ⟨_, _, rfl, rfl⟩), .inr (.inl ⟨rfl, rfl⟩), .inr (.inl ⟨rfl, rfl⟩), .inr (.inl ⟨rfl, rfl⟩), trivial⟩ (ev_inLI (xs := s13) (ev_some (em := Dt.int) h_o23 (ev_var (i := 5) rfl)) (ev_var (i := 2) rfl)) flat_bl)) (fun hb =>
sm_as <|
sm_frz (i := 2) (es' := [.d ((d_Plan A) plan), .d ((dT2 (dV (dT3 Dt.int Dt.str (dO Dt.str))) (dV Dt.str)) state), .d (.lst (List.map Dt.int s13)), .d (.int t14), .d ((dO d_Stp) t15), .d ((dO Dt.int) t22)]) rfl rfl <|
sm_bind fun o24 h_o24 =>
sm_bind fun t25 h_t25 =>
sm_some (sev_rt (ev_is (ev_tup (ea_cons (ev_str) (ea_cons (ev_new (el_cut (em := Dt.int) (ev_var (i := 2) rfl) (eo_some (ev_lIdx (ev_var (i := 2) rfl) (ev_some (em := Dt.int) h_o24 (ev_var (i := 5) rfl)) h_t25)) (eo_none))) (ea_nil))) (by simp)) rfl) (wk_uns rfl))) (fun hb =>
sm_nil <|
sm_as <|
sm_bind fun o26 h_o26 =>
sm_bind fun chain27 h_chain27 =>
sm_app (i := 2) (x := o26) (es' := [.d ((d_Plan A) plan), .d ((dT2 (dV (dT3 Dt.int Dt.str (dO Dt.str))) (dV Dt.str)) state), .own none (List.map Dt.int chain27), .d (.int t14), .d ((dO d_Stp) t15), .d ((dO Dt.int) t22)]) (em := Dt.int) rfl (ev_some (em := Dt.int) h_o26 (ev_var (i := 5) rfl)) h_chain27 rfl <|
sm_nil <|
sm_some (sev_go (wk_e <| wk_e <| wk_e <| wk_u <| wk_u <| wk_u <| wk_n)))))) (fun s28 =>
sm_nil <|
sm_none) (fun _ => rfl))⟩
theorem sc__law_at : FnScope ["_law_flows", "_law_state", "_law_arm", "_law_at_here"] ["_law_flows", "_law_state", "_law_arm"] (defScope (topS 16)) := ⟨rfl, rfl, rfl, by decide +kernel, rfl, by decide +kernel, by decide +kernel⟩
theorem b__law_at (T : Top K mg A) : Binds K A.d__law_at ["_law_flows", "_law_state", "_law_arm"] [] := T.F__law_at.binds (ps := ["_law_flows", "_law_state", "_law_arm"]) fun _ _ _ _ _ _ us hl => match us, hl with | [_, _, _], _ => rfl
def P__law_at (A : Ads) (ds : List Dt) (d : Dt) : Prop := ∃ (flows : (List (List Stp))) (state : ((List (Int × Str × (Option Str))) × (List Str))) (arm : Int) (r : (Option Stp)), ds = [.lst (List.map (dL d_Stp) flows), (dT2 (dV (dT3 Dt.int Dt.str (dO Dt.str))) (dV Dt.str)) state, .int arm] ∧ m__law_at flows state arm = some r ∧ d = (dO d_Stp) r
set_option maxHeartbeats 4000000 in
theorem ok__law_at (T : Top K mg A) : FnOk P A.w K mg base CX0 1 A.f__law_at A.d__law_at ["_law_flows", "_law_state", "_law_arm"] (FSpec K (RD (P__law_at A))) :=
  fn_D T.F__law_at sc__law_at (fun ds d h => by obtain ⟨flows, state, arm, r, rfl, _, _⟩ := h; rfl) fun cdv A1 outer s H E hr => ⟨_, pss_cons (ps_set (i := 3) sc__law_at.nd rfl (by first | exact Or.inl rfl | exact Or.inr rfl) (pe_ix ix_tup (pe_ix ix_tup (pe_ix ix_tup (pv 1) (pe_int) (fun _ _ => rfl)) (pv 2) (fun _ _ => rfl)) (pe_int) (fun _ _ => rfl)))
 (pss_cons (ps_if (pt_cmpR op_lt (pv 3) (pe_callB cr_lenS (by rfl) T.z_len bt_len (pa_cons (pe_ix ix_list (pv 0) (pv 2) (fun _ _ => rfl)) (pa_nil))) (nomark _)) (pss_cons (ps_ret (pe_ix ix_list (pe_ix ix_list (pv 0) (pv 2) (fun _ _ => rfl)) (pv 3) (fun _ _ => rfl)))
 (pss_nil)) (pss_nil))
 (pss_cons (ps_ret (pe_non))
 (pss_nil))), fun ds d h => by
    obtain ⟨flows, state, arm, r, rfl, h, rfl⟩ := h
    unfold m__law_at at h
    refine ⟨_, List.replicate 4 .un, sm_run (es := [.d (.lst (List.map (dL d_Stp) flows)), .d ((dT2 (dV (dT3 Dt.int Dt.str (dO Dt.str))) (dV Dt.str)) state), .d (.int arm), .un]) (oc := fun (r : (Option Stp)) => .rt ((dO d_Stp) r) (List.replicate 4 .un)) h ?_, .inl rfl⟩
    exact sm_one <|
sm_as <|
sm_bind fun t1 h_t1 =>
sm_lt fun at_here2 h_at_here2 =>
sm_set (es' := [.d (.lst (List.map (dL d_Stp) flows)), .d ((dT2 (dV (dT3 Dt.int Dt.str (dO Dt.str))) (dV Dt.str)) state), .d (.int arm), .d (.int at_here2)]) (ev_is (ev_ixNG 0 rfl rfl (ev_ixTC (em := (dT3 Dt.int Dt.str (dO Dt.str))) (ev_ixNG 0 rfl rfl (ev_var (i := 1) rfl) (ev_int)) (ev_var (i := 2) rfl) h_t1) (ev_int)) (congrArg Dt.int h_at_here2)) rfl <|
sm_as <|
sm_bind fun t3 h_t3 =>
sm_if (et_test (ev_lt (ev_var (i := 3) rfl) (ev_lenLm (ev_ixLC (em := (dL d_Stp)) (ev_var (i := 0) rfl) (ev_var (i := 2) rfl) h_t3)))) (fun hb =>
sm_as <|
sm_bind fun t4 h_t4 =>
sm_bind fun t5 h_t5 =>
sm_some (sev_rt (ev_ixLC (em := d_Stp) (ev_ixLC (em := (dL d_Stp)) (ev_var (i := 0) rfl) (ev_var (i := 2) rfl) h_t4) (ev_var (i := 3) rfl) h_t5) (wk_uns rfl))) (fun hb =>
sm_nil <|
sm_as <|
sm_some (sev_rt (ev_non) (wk_uns rfl)))⟩
theorem sc__law_wanted : FnScope ["_law_flows", "_law_state", "_law_arm", "_law_step_here"] ["_law_flows", "_law_state", "_law_arm"] (defScope (topS 17)) := ⟨rfl, rfl, rfl, by decide +kernel, rfl, by decide +kernel, by decide +kernel⟩
theorem b__law_wanted (T : Top K mg A) : Binds K A.d__law_wanted ["_law_flows", "_law_state", "_law_arm"] [] := T.F__law_wanted.binds (ps := ["_law_flows", "_law_state", "_law_arm"]) fun _ _ _ _ _ _ us hl => match us, hl with | [_, _, _], _ => rfl
def P__law_wanted (A : Ads) (ds : List Dt) (d : Dt) : Prop := ∃ (flows : (List (List Stp))) (state : ((List (Int × Str × (Option Str))) × (List Str))) (arm : Int) (r : (Option Plc)), ds = [.lst (List.map (dL d_Stp) flows), (dT2 (dV (dT3 Dt.int Dt.str (dO Dt.str))) (dV Dt.str)) state, .int arm] ∧ m__law_wanted flows state arm = some r ∧ d = (dO d_Plc) r
set_option maxHeartbeats 4000000 in
theorem ok__law_wanted (T : Top K mg A) : FnOk P A.w K mg base CX0 2 A.f__law_wanted A.d__law_wanted ["_law_flows", "_law_state", "_law_arm"] (FSpec K (RD (P__law_wanted A))) :=
  fn_D T.F__law_wanted sc__law_wanted (fun ds d h => by obtain ⟨flows, state, arm, r, rfl, _, _⟩ := h; rfl) fun cdv A1 outer s H E hr => ⟨_, pss_cons (ps_set (i := 3) sc__law_wanted.nd rfl (by first | exact Or.inl rfl | exact Or.inr rfl) (pe_call (ok__law_at T) (hr.mono (by decide)) (by rfl) T.g__law_at T.F__law_at.kp (b__law_at T) .nil pass0 (pa_cons (pv 0) (pa_cons (pv 1) (pa_cons (pv 2) (pa_nil))))))
 (pss_cons (ps_if (pt_cmpR op_isN1 (pv 3) (pe_non) (nomark _)) (pss_cons (ps_ret (pe_non))
 (pss_nil)) (pss_nil))
 (pss_cons (ps_if (pt_cmpR op_eq (pe_ix ix_tup (pv 3) (pe_int) (fun _ _ => rfl)) (pe_str) (nomark _)) (pss_cons (ps_ret (pe_tup (pa_cons (pe_str) (pa_cons (pe_ix ix_tup (pe_ix ix_tup (pe_ix ix_tup (pv 1) (pe_int) (fun _ _ => rfl)) (pv 2) (fun _ _ => rfl)) (pe_int) (fun _ _ => rfl)) (pa_cons (pe_ix ix_tup (pv 3) (pe_int) (fun _ _ => rfl)) (pa_cons (pe_ix ix_tup (pe_ix ix_tup (pe_ix ix_tup (pv 1) (pe_int) (fun _ _ => rfl)) (pv 2) (fun _ _ => rfl)) (pe_int) (fun _ _ => rfl)) (pa_nil)))))))
 (pss_nil)) (pss_nil))
 (pss_cons (ps_if (pt_cmpR op_eq (pe_ix ix_tup (pv 3) (pe_int) (fun _ _ => rfl)) (pe_str) (nomark _)) (pss_cons (ps_ret (pe_tup (pa_cons (pe_str) (pa_cons (pe_ix ix_tup (pe_ix ix_tup (pe_ix ix_tup (pv 1) (pe_int) (fun _ _ => rfl)) (pv 2) (fun _ _ => rfl)) (pe_int) (fun _ _ => rfl)) (pa_cons (pe_ix ix_tup (pv 3) (pe_int) (fun _ _ => rfl)) (pa_nil))))))
 (pss_nil)) (pss_nil))
 (pss_cons (ps_ret (pe_non))
 (pss_nil))))), fun ds d h => by
    obtain ⟨flows, state, arm, r, rfl, h, rfl⟩ := h
    unfold m__law_wanted at h
    refine ⟨_, List.replicate 4 .un, sm_run (es := [.d (.lst (List.map (dL d_Stp) flows)), .d ((dT2 (dV (dT3 Dt.int Dt.str (dO Dt.str))) (dV Dt.str)) state), .d (.int arm), .un]) (oc := fun (r : (Option Plc)) => .rt ((dO d_Plc) r) (List.replicate 4 .un)) h ?_, .inl rfl⟩
    exact sm_one <|
sm_as <|
sm_bind fun t1 h_t1 =>
sm_set (es' := [.d (.lst (List.map (dL d_Stp) flows)), .d ((dT2 (dV (dT3 Dt.int Dt.str (dO Dt.str))) (dV Dt.str)) state), .d (.int arm), .d ((dO d_Stp) t1)]) (ev_call (ea_cons (ev_var (i := 0) rfl) (ea_cons (ev_var (i := 1) rfl) (ea_cons (ev_var (i := 2) rfl) (ea_nil)))) ⟨flows, state, arm, t1, rfl, h_t1, rfl⟩) rfl <|
sm_as <|
sm_if (et_test (ev_isO (em := d_Stp) (fun x h => by cases x <;> cases h) (ev_var (i := 3) rfl))) (fun hb =>
sm_as <|
sm_some (sev_rt (ev_non) (wk_uns rfl))) (fun hb =>
sm_nil <|
sm_as <|
sm_bind fun o2 h_o2 =>
sm_if (et_test (ev_eqS (ev_ixR (ev_some (em := d_Stp) h_o2 (ev_var (i := 3) rfl)) (ev_int) (d_Stp_word _)) (ev_str))) (fun hb =>
sm_as <|
sm_bind fun t3 h_t3 =>
sm_bind fun o4 h_o4 =>
sm_bind fun t5 h_t5 =>
sm_bind fun t6 h_t6 =>
sm_some (sev_rt (ev_is (ev_tup (ea_cons (ev_str) (ea_cons (ev_ixNG 1 rfl rfl (ev_ixTC (em := (dT3 Dt.int Dt.str (dO Dt.str))) (ev_ixNG 0 rfl rfl (ev_var (i := 1) rfl) (ev_int)) (ev_var (i := 2) rfl) h_t3) (ev_int)) (ea_cons (ev_ixR (ev_some (em := d_Stp) h_o4 (ev_var (i := 3) rfl)) (ev_int) (d_Stp_at1S h_t5)) (ea_cons (ev_ixNG 2 rfl rfl (ev_ixTC (em := (dT3 Dt.int Dt.str (dO Dt.str))) (ev_ixNG 0 rfl rfl (ev_var (i := 1) rfl) (ev_int)) (ev_var (i := 2) rfl) h_t6) (ev_int)) (ea_nil))))) (by simp)) rfl) (wk_uns rfl))) (fun hb =>
sm_nil <|
sm_as <|
sm_bind fun o7 h_o7 =>
sm_if (et_test (ev_eqS (ev_ixR (ev_some (em := d_Stp) h_o7 (ev_var (i := 3) rfl)) (ev_int) (d_Stp_word _)) (ev_str))) (fun hb =>
sm_as <|
sm_bind fun t8 h_t8 =>
sm_bind fun o9 h_o9 =>
sm_bind fun t10 h_t10 =>
sm_some (sev_rt (ev_is (ev_tup (ea_cons (ev_str) (ea_cons (ev_ixNG 1 rfl rfl (ev_ixTC (em := (dT3 Dt.int Dt.str (dO Dt.str))) (ev_ixNG 0 rfl rfl (ev_var (i := 1) rfl) (ev_int)) (ev_var (i := 2) rfl) h_t8) (ev_int)) (ea_cons (ev_ixR (ev_some (em := d_Stp) h_o9 (ev_var (i := 3) rfl)) (ev_int) (d_Stp_at1O h_t10)) (ea_nil)))) (by simp)) rfl) (wk_uns rfl))) (fun hb =>
sm_nil <|
sm_as <|
sm_some (sev_rt (ev_non) (wk_uns rfl)))))⟩
theorem sc__law_clear : FnScope ["_law_blocked", "_law_arm", "_law_place_here", "_law_other", "_law_other_place"] ["_law_blocked", "_law_arm", "_law_place_here", "_law_other", "_law_other_place"] (defScope (topS 15)) := ⟨rfl, rfl, rfl, by decide +kernel, rfl, by decide +kernel, by decide +kernel⟩
theorem b__law_clear (T : Top K mg A) : Binds K A.d__law_clear ["_law_blocked", "_law_arm", "_law_place_here", "_law_other", "_law_other_place"] [] := T.F__law_clear.binds (ps := ["_law_blocked", "_law_arm", "_law_place_here", "_law_other", "_law_other_place"]) fun _ _ _ _ _ _ us hl => match us, hl with | [_, _, _, _, _], _ => rfl
def P__law_clear (A : Ads) (ds : List Dt) (d : Dt) : Prop := ∃ (blocked : (List (Int × Plc × Int × Plc))) (arm : Int) (place_here : Plc) (other : Int) (other_place : Plc) (r : Bool), ds = [.lst (List.map (dT4 Dt.int d_Plc Dt.int d_Plc) blocked), .int arm, d_Plc place_here, .int other, d_Plc other_place] ∧ m__law_clear blocked arm place_here other other_place = some r ∧ d = .bl r
set_option maxHeartbeats 4000000 in
theorem ok__law_clear (T : Top K mg A) : FnOk P A.w K mg base CX0 1 A.f__law_clear A.d__law_clear ["_law_blocked", "_law_arm", "_law_place_here", "_law_other", "_law_other_place"] (FSpec K (RD (P__law_clear A))) :=
  fn_D T.F__law_clear sc__law_clear (fun ds d h => by obtain ⟨blocked, arm, place_here, other, other_place, r, rfl, _, _⟩ := h; rfl) fun cdv A1 outer s H E hr => ⟨_, pss_cons (ps_ret (pe_and (pe_cmpR (op_ninLD hr.units) (pe_tup (pa_cons (pv 1) (pa_cons (pv 2) (pa_cons (pv 3) (pa_cons (pv 4) (pa_nil)))))) (pv 0) (by with_unfolding_all rfl)) (pe_one (pe_cmpR (op_ninLD hr.units) (pe_tup (pa_cons (pv 3) (pa_cons (pv 4) (pa_cons (pv 1) (pa_cons (pv 2) (pa_nil)))))) (pv 0) (by with_unfolding_all rfl)))))
 (pss_nil), fun ds d h => by
    obtain ⟨blocked, arm, place_here, other, other_place, r, rfl, h, rfl⟩ := h
    unfold m__law_clear at h
    refine ⟨_, List.replicate 5 .un, sm_run (es := [.d (.lst (List.map (dT4 Dt.int d_Plc Dt.int d_Plc) blocked)), .d (.int arm), .d (d_Plc place_here), .d (.int other), .d (d_Plc other_place)]) (oc := fun (r : Bool) => .rt (.bl r) (List.replicate 5 .un)) h ?_, .inl rfl⟩
    exact sm_one <|
sm_as <|
sm_bind fun t1 h_t1 =>
sm_bind fun b3 h_b3 =>
sm_some (sev_rt (ev_andVC (ev_ninLC (a := (dT4 Dt.int d_Plc Dt.int d_Plc) (arm, place_here, other, other_place)) (ds := List.map (dT4 Dt.int d_Plc Dt.int d_Plc) blocked) (ev_tup (ea_cons (ev_var (i := 1) rfl) (ea_cons (ev_var (i := 2) rfl) (ea_cons (ev_var (i := 3) rfl) (ea_cons (ev_var (i := 4) rfl) (ea_nil))))) (by simp)) (ev_var (i := 0) rfl) h_t1) (fun _ => eb_bnd fun t2 h_t2 => eb_pure (ev_ninLC (a := (dT4 Dt.int d_Plc Dt.int d_Plc) (other, other_place, arm, place_here)) (ds := List.map (dT4 Dt.int d_Plc Dt.int d_Plc) blocked) (ev_tup (ea_cons (ev_var (i := 3) rfl) (ea_cons (ev_var (i := 4) rfl) (ea_cons (ev_var (i := 1) rfl) (ea_cons (ev_var (i := 2) rfl) (ea_nil))))) (by simp)) (ev_var (i := 0) rfl) h_t2)) h_b3) (wk_uns rfl))⟩
theorem sc__law_hinders : FnScope ["_law_flows", "_law_blocked", "_law_state", "_law_arm", "_law_place_here", "_law_other", "_law_rest"] ["_law_flows", "_law_blocked", "_law_state", "_law_arm"] (defScope (topS 18)) := ⟨rfl, rfl, rfl, by decide +kernel, rfl, by decide +kernel, by decide +kernel⟩
theorem b__law_hinders (T : Top K mg A) : Binds K A.d__law_hinders ["_law_flows", "_law_blocked", "_law_state", "_law_arm"] [] := T.F__law_hinders.binds (ps := ["_law_flows", "_law_blocked", "_law_state", "_law_arm"]) fun _ _ _ _ _ _ us hl => match us, hl with | [_, _, _, _], _ => rfl
def P__law_hinders (A : Ads) (ds : List Dt) (d : Dt) : Prop := ∃ (flows : (List (List Stp))) (blocked : (List (Int × Plc × Int × Plc))) (state : ((List (Int × Str × (Option Str))) × (List Str))) (arm : Int) (r : (Option Int)), ds = [.lst (List.map (dL d_Stp) flows), .lst (List.map (dT4 Dt.int d_Plc Dt.int d_Plc) blocked), (dT2 (dV (dT3 Dt.int Dt.str (dO Dt.str))) (dV Dt.str)) state, .int arm] ∧ m__law_hinders flows blocked state arm = some r ∧ d = (dO Dt.int) r
set_option maxHeartbeats 4000000 in
theorem ok__law_hinders (T : Top K mg A) : FnOk P A.w K mg base CX0 3 A.f__law_hinders A.d__law_hinders ["_law_flows", "_law_blocked", "_law_state", "_law_arm"] (FSpec K (RD (P__law_hinders A))) :=
  fn_D T.F__law_hinders sc__law_hinders (fun ds d h => by obtain ⟨flows, blocked, state, arm, r, rfl, _, _⟩ := h; rfl) fun cdv A1 outer s H E hr => ⟨_, pss_cons (ps_set (i := 4) sc__law_hinders.nd rfl (by first | exact Or.inl rfl | exact Or.inr rfl) (pe_call (ok__law_wanted T) (hr.mono (by decide)) (by rfl) T.g__law_wanted T.F__law_wanted.kp (b__law_wanted T) .nil pass0 (pa_cons (pv 0) (pa_cons (pv 2) (pa_cons (pv 3) (pa_nil))))))
 (pss_cons (ps_if (pt_cmpR op_notN1 (pv 4) (pe_non) (nomark _)) (pss_cons (ps_for PassesOwn.never rfl (pi_range1 (by rfl) T.z_range (pa_cons (pe_callB cr_lenS (by rfl) T.z_len bt_len (pa_cons (pv 0) (pa_nil))) (pa_nil))) (pg_name (i := 5) sc__law_hinders.nd rfl (by first | exact Or.inl rfl | exact Or.inr rfl)) (pss_cons (ps_set (i := 6) sc__law_hinders.nd rfl (by first | exact Or.inl rfl | exact Or.inr rfl) (pe_tup (pa_cons (pe_str) (pa_cons (pe_ix ix_tup (pe_ix ix_tup (pe_ix ix_tup (pv 2) (pe_int) (fun _ _ => rfl)) (pv 5) (fun _ _ => rfl)) (pe_int) (fun _ _ => rfl)) (pa_cons (pe_ix ix_tup (pe_ix ix_tup (pe_ix ix_tup (pv 2) (pe_int) (fun _ _ => rfl)) (pv 5) (fun _ _ => rfl)) (pe_int) (fun _ _ => rfl)) (pa_nil))))))
 (pss_cons (ps_if (PW.pt (pw_and (pt_cmpR op_ne (pv 5) (pv 3) (nomark _)) (pw_and1 (pt_not (pt_val (pe_call (ok__law_clear T) (hr.mono (by decide)) (by rfl) T.g__law_clear T.F__law_clear.kp (b__law_clear T) .nil pass0 (pa_cons (pv 1) (pa_cons (pv 3) (pa_cons (pv 4) (pa_cons (pv 5) (pa_cons (pv 6) (pa_nil)))))))))))) (pss_cons (ps_ret (pv 5))
 (pss_nil)) (pss_nil))
 (pss_nil))))
 (pss_nil)) (pss_nil))
 (pss_cons (ps_ret (pe_non))
 (pss_nil))), fun ds d h => by
    obtain ⟨flows, blocked, state, arm, r, rfl, h, rfl⟩ := h
    unfold m__law_hinders at h
    refine ⟨_, List.replicate 7 .un, sm_run (es := [.d (.lst (List.map (dL d_Stp) flows)), .d (.lst (List.map (dT4 Dt.int d_Plc Dt.int d_Plc) blocked)), .d ((dT2 (dV (dT3 Dt.int Dt.str (dO Dt.str))) (dV Dt.str)) state), .d (.int arm), .un, .un, .un]) (oc := fun (r : (Option Int)) => .rt ((dO Dt.int) r) (List.replicate 7 .un)) h ?_, .inl rfl⟩
    exact sm_one <|
sm_as <|
sm_bind fun t1 h_t1 =>
sm_set (es' := [.d (.lst (List.map (dL d_Stp) flows)), .d (.lst (List.map (dT4 Dt.int d_Plc Dt.int d_Plc) blocked)), .d ((dT2 (dV (dT3 Dt.int Dt.str (dO Dt.str))) (dV Dt.str)) state), .d (.int arm), .d ((dO d_Plc) t1), .un, .un]) (ev_call (ea_cons (ev_var (i := 0) rfl) (ea_cons (ev_var (i := 2) rfl) (ea_cons (ev_var (i := 3) rfl) (ea_nil)))) ⟨flows, state, arm, t1, rfl, h_t1, rfl⟩) rfl <|
sm_as <|
sm_if (et_test (ev_nisO (em := d_Plc) (fun x h => by cases x <;> cases h) (ev_var (i := 4) rfl))) (fun hb =>
sm_as <|
sm_bind fun r2 h_r2 =>
sm_thenF (env := fun (s : Unit) => [.d (.lst (List.map (dL d_Stp) flows)), .d (.lst (List.map (dT4 Dt.int d_Plc Dt.int d_Plc) blocked)), .d ((dT2 (dV (dT3 Dt.int Dt.str (dO Dt.str))) (dV Dt.str)) state), .d (.int arm), .d ((dO d_Plc) t1), .un, .un]) (ed := fun r => (dO Dt.int) r) (ee := fun _ => List.replicate 7 .un) (sm_for (xs := r2) (em := Dt.int) (env := fun (s : Unit) => [.d (.lst (List.map (dL d_Stp) flows)), .d (.lst (List.map (dT4 Dt.int d_Plc Dt.int d_Plc) blocked)), .d ((dT2 (dV (dT3 Dt.int Dt.str (dO Dt.str))) (dV Dt.str)) state), .d (.int arm), .d ((dO d_Plc) t1), .un, .un]) (en2 := fun (other4 : Int) (s3 : Unit) => [.d (.lst (List.map (dL d_Stp) flows)), .d (.lst (List.map (dT4 Dt.int d_Plc Dt.int d_Plc) blocked)), .d ((dT2 (dV (dT3 Dt.int Dt.str (dO Dt.str))) (dV Dt.str)) state), .d (.int arm), .d ((dO d_Plc) t1), .d (.int other4), .un]) (ei_rng1 (ea_cons (ev_lenLm (ev_var (i := 0) rfl)) (ea_nil)) h_r2) (wk_e <| wk_e <| wk_e <| wk_e <| wk_e <| wk_u <| wk_u <| wk_n) (fun other4 s3 => eg_name (vs := [5]) (by simp)) fun other4 s3 h_other4 => sm_one <|
sm_as <|
sm_bind fun t5 h_t5 =>
sm_bind fun t6 h_t6 =>
sm_lt fun rest7 h_rest7 =>
sm_set (es' := [.d (.lst (List.map (dL d_Stp) flows)), .d (.lst (List.map (dT4 Dt.int d_Plc Dt.int d_Plc) blocked)), .d ((dT2 (dV (dT3 Dt.int Dt.str (dO Dt.str))) (dV Dt.str)) state), .d (.int arm), .d ((dO d_Plc) t1), .d (.int other4), .d ((dT3 (dK "rest") Dt.str (dO Dt.str)) rest7)]) (ev_is (ev_tup (ea_cons (ev_str) (ea_cons (ev_ixNG 1 rfl rfl (ev_ixTC (em := (dT3 Dt.int Dt.str (dO Dt.str))) (ev_ixNG 0 rfl rfl (ev_var (i := 2) rfl) (ev_int)) (ev_var (i := 5) rfl) h_t5) (ev_int)) (ea_cons (ev_ixNG 2 rfl rfl (ev_ixTC (em := (dT3 Dt.int Dt.str (dO Dt.str))) (ev_ixNG 0 rfl rfl (ev_var (i := 2) rfl) (ev_int)) (ev_var (i := 5) rfl) h_t6) (ev_int)) (ea_nil)))) (by simp)) (congrArg (dT3 (dK "rest") Dt.str (dO Dt.str)) h_rest7)) rfl <|
sm_as <|
sm_bind fun b10 h_b10 =>
sm_if (et_andC (et_test (ev_neI (ev_var (i := 5) rfl) (ev_var (i := 3) rfl))) (fun _ => et_bnd fun o8 h_o8 => et_bnd fun t9 h_t9 => et_pure (et_not (et_B (ev_call (ea_cons (ev_var (i := 1) rfl) (ea_cons (ev_var (i := 3) rfl) (ea_cons (ev_some (em := d_Plc) h_o8 (ev_var (i := 4) rfl)) (ea_cons (ev_var (i := 5) rfl) (ea_cons (ev_is (ev_var (i := 6) rfl) rfl) (ea_nil)))))) ⟨blocked, arm, o8, other4, (Plc.w_rest rest7.2.1 rest7.2.2), t9, rfl, h_t9, rfl⟩)))) h_b10) (fun hb =>
sm_as <|
sm_some (sev_rt (ev_var (i := 5) rfl) (wk_uns rfl))) (fun hb =>
sm_nil <|
sm_nil <|
sm_some (sev_go (wk_e <| wk_e <| wk_e <| wk_e <| wk_e <| wk_u <| wk_u <| wk_n)))) (fun s11 =>
sm_nil <|
sm_as <|
sm_some (sev_rt (ev_non) (wk_uns rfl))) (fun _ => rfl)) (fun hb =>
sm_nil <|
sm_as <|
sm_some (sev_rt (ev_non) (wk_uns rfl)))⟩
theorem sc__law_can : FnScope ["_law_flows", "_law_blocked", "_law_state", "_law_arm", "_law_step_here"] ["_law_flows", "_law_blocked", "_law_state", "_law_arm"] (defScope (topS 19)) := ⟨rfl, rfl, rfl, by decide +kernel, rfl, by decide +kernel, by decide +kernel⟩
theorem b__law_can (T : Top K mg A) : Binds K A.d__law_can ["_law_flows", "_law_blocked", "_law_state", "_law_arm"] [] := T.F__law_can.binds (ps := ["_law_flows", "_law_blocked", "_law_state", "_law_arm"]) fun _ _ _ _ _ _ us hl => match us, hl with | [_, _, _, _], _ => rfl
def P__law_can (A : Ads) (ds : List Dt) (d : Dt) : Prop := ∃ (flows : (List (List Stp))) (blocked : (List (Int × Plc × Int × Plc))) (state : ((List (Int × Str × (Option Str))) × (List Str))) (arm : Int) (r : Bool), ds = [.lst (List.map (dL d_Stp) flows), .lst (List.map (dT4 Dt.int d_Plc Dt.int d_Plc) blocked), (dT2 (dV (dT3 Dt.int Dt.str (dO Dt.str))) (dV Dt.str)) state, .int arm] ∧ m__law_can flows blocked state arm = some r ∧ d = .bl r
set_option maxHeartbeats 4000000 in
theorem ok__law_can (T : Top K mg A) : FnOk P A.w K mg base CX0 4 A.f__law_can A.d__law_can ["_law_flows", "_law_blocked", "_law_state", "_law_arm"] (FSpec K (RD (P__law_can A))) :=
  fn_D T.F__law_can sc__law_can (fun ds d h => by obtain ⟨flows, blocked, state, arm, r, rfl, _, _⟩ := h; rfl) fun cdv A1 outer s H E hr => ⟨_, pss_cons (ps_set (i := 4) sc__law_can.nd rfl (by first | exact Or.inl rfl | exact Or.inr rfl) (pe_call (ok__law_at T) (hr.mono (by decide)) (by rfl) T.g__law_at T.F__law_at.kp (b__law_at T) .nil pass0 (pa_cons (pv 0) (pa_cons (pv 2) (pa_cons (pv 3) (pa_nil))))))
 (pss_cons (ps_if (pt_cmpR op_isN1 (pv 4) (pe_non) (nomark _)) (pss_cons (ps_ret (pe_bl))
 (pss_nil)) (pss_nil))
 (pss_cons (ps_if (pt_cmpR op_eq (pe_ix ix_tup (pv 4) (pe_int) (fun _ _ => rfl)) (pe_str) (nomark _)) (pss_cons (ps_ret (pe_cmpR op_eq (pe_cmpR op_in_seq (pe_ix ix_tup (pv 4) (pe_int) (fun _ _ => rfl)) (pe_ix ix_tup (pv 2) (pe_int) (fun _ _ => rfl)) (by with_unfolding_all rfl)) (pe_ix ix_tup (pv 4) (pe_int) (fun _ _ => rfl)) (nomark _)))
 (pss_nil)) (pss_nil))
 (pss_cons (ps_ret (pe_cmpR op_isN1 (pe_call (ok__law_hinders T) (hr.mono (by decide)) (by rfl) T.g__law_hinders T.F__law_hinders.kp (b__law_hinders T) .nil pass0 (pa_cons (pv 0) (pa_cons (pv 1) (pa_cons (pv 2) (pa_cons (pv 3) (pa_nil)))))) (pe_non) (nomark _)))
 (pss_nil)))), fun ds d h => by
    obtain ⟨flows, blocked, state, arm, r, rfl, h, rfl⟩ := h
    unfold m__law_can at h
    refine ⟨_, List.replicate 5 .un, sm_run (es := [.d (.lst (List.map (dL d_Stp) flows)), .d (.lst (List.map (dT4 Dt.int d_Plc Dt.int d_Plc) blocked)), .d ((dT2 (dV (dT3 Dt.int Dt.str (dO Dt.str))) (dV Dt.str)) state), .d (.int arm), .un]) (oc := fun (r : Bool) => .rt (.bl r) (List.replicate 5 .un)) h ?_, .inl rfl⟩
    exact sm_one <|
sm_as <|
sm_bind fun t1 h_t1 =>
sm_set (es' := [.d (.lst (List.map (dL d_Stp) flows)), .d (.lst (List.map (dT4 Dt.int d_Plc Dt.int d_Plc) blocked)), .d ((dT2 (dV (dT3 Dt.int Dt.str (dO Dt.str))) (dV Dt.str)) state), .d (.int arm), .d ((dO d_Stp) t1)]) (ev_call (ea_cons (ev_var (i := 0) rfl) (ea_cons (ev_var (i := 2) rfl) (ea_cons (ev_var (i := 3) rfl) (ea_nil)))) ⟨flows, state, arm, t1, rfl, h_t1, rfl⟩) rfl <|
sm_as <|
sm_if (et_test (ev_isO (em := d_Stp) (fun x h => by cases x <;> cases h) (ev_var (i := 4) rfl))) (fun hb =>
sm_as <|
sm_some (sev_rt (ev_bl) (wk_uns rfl))) (fun hb =>
sm_nil <|
sm_as <|
sm_bind fun o2 h_o2 =>
sm_if (et_test (ev_eqS (ev_ixR (ev_some (em := d_Stp) h_o2 (ev_var (i := 4) rfl)) (ev_int) (d_Stp_word _)) (ev_str))) (fun hb =>
sm_as <|
sm_bind fun o3 h_o3 =>
sm_bind fun t4 h_t4 =>
sm_bind fun o5 h_o5 =>
sm_bind fun t6 h_t6 =>
sm_some (sev_rt (ev_eqB (ev_inTS (xs := state.2) (ev_ixR (ev_some (em := d_Stp) h_o3 (ev_var (i := 4) rfl)) (ev_int) (d_Stp_at1S h_t4)) (ev_ixNG 1 rfl rfl (ev_var (i := 2) rfl) (ev_int))) (ev_ixR (ev_some (em := d_Stp) h_o5 (ev_var (i := 4) rfl)) (ev_int) (d_Stp_at2B h_t6))) (wk_uns rfl))) (fun hb =>
sm_nil <|
sm_as <|
sm_bind fun t7 h_t7 =>
sm_some (sev_rt (ev_isO (em := Dt.int) (fun _ h => nomatch h) (ev_call (ea_cons (ev_var (i := 0) rfl) (ea_cons (ev_var (i := 1) rfl) (ea_cons (ev_var (i := 2) rfl) (ea_cons (ev_var (i := 3) rfl) (ea_nil))))) ⟨flows, blocked, state, arm, t7, rfl, h_t7, rfl⟩)) (wk_uns rfl))))⟩
theorem sc__law_holds : FnScope ["_law_flows", "_law_blocked", "_law_state", "_law_chain", "_law_arm", "_law_k", "_law_step_here", "_law_other"] ["_law_flows", "_law_blocked", "_law_state"] (defScope (topS 24)) := ⟨rfl, rfl, rfl, by decide +kernel, rfl, by decide +kernel, by decide +kernel⟩
theorem b__law_holds (T : Top K mg A) : Binds K A.d__law_holds ["_law_flows", "_law_blocked", "_law_state"] [] := T.F__law_holds.binds (ps := ["_law_flows", "_law_blocked", "_law_state"]) fun _ _ _ _ _ _ us hl => match us, hl with | [_, _, _], _ => rfl
def P__law_holds (A : Ads) (ds : List Dt) (d : Dt) : Prop := ∃ (flows : (List (List Stp))) (blocked : (List (Int × Plc × Int × Plc))) (state : ((List (Int × Str × (Option Str))) × (List Str))) (r : (Option Hld)), ds = [.lst (List.map (dL d_Stp) flows), .lst (List.map (dT4 Dt.int d_Plc Dt.int d_Plc) blocked), (dT2 (dV (dT3 Dt.int Dt.str (dO Dt.str))) (dV Dt.str)) state] ∧ m__law_holds flows blocked state = some r ∧ d = (dO d_Hld) r
set_option maxHeartbeats 4000000 in
theorem ok__law_holds (T : Top K mg A) : FnOk P A.w K mg base CX0 5 A.f__law_holds A.d__law_holds ["_law_flows", "_law_blocked", "_law_state"] (FSpec K (RD (P__law_holds A))) :=
  fn_D T.F__law_holds sc__law_holds (fun ds d h => by obtain ⟨flows, blocked, state, r, rfl, _, _⟩ := h; rfl) fun cdv A1 outer s H E hr => ⟨_, pss_cons (ps_set (i := 3) sc__law_holds.nd rfl (by first | exact Or.inl rfl | exact Or.inr rfl) (pe_lst (pa_nil)))
 (pss_cons (ps_for PassesOwn.never rfl (pi_range1 (by rfl) T.z_range (pa_cons (pe_callB cr_lenS (by rfl) T.z_len bt_len (pa_cons (pv 0) (pa_nil))) (pa_nil))) (pg_name (i := 4) sc__law_holds.nd rfl (by first | exact Or.inl rfl | exact Or.inr rfl)) (pss_cons (ps_if (pt_val (pe_call (ok__law_can T) (hr.mono (by decide)) (by rfl) T.g__law_can T.F__law_can.kp (b__law_can T) .nil pass0 (pa_cons (pv 0) (pa_cons (pv 1) (pa_cons (pv 2) (pa_cons (pv 4) (pa_nil))))))) (pss_cons (ps_ret (pe_non))
 (pss_nil)) (pss_nil))
 (pss_cons (ps_if (PW.pt (pw_and (pt_cmpR op_eq (pe_callB cr_lenS (by rfl) T.z_len bt_len (pa_cons (pv 3) pa_nil)) (pe_int) (nomark _)) (pw_and1 (pt_cmpR op_notN1 (pe_call (ok__law_at T) (hr.mono (by decide)) (by rfl) T.g__law_at T.F__law_at.kp (b__law_at T) .nil pass0 (pa_cons (pv 0) (pa_cons (pv 2) (pa_cons (pv 4) (pa_nil))))) (pe_non) (nomark _))))) (pss_cons (ps_expr (pe_bm PySem.F.plainAttrs_list PySem.F.slot_list_append PySem.F.type_list_append mt_append (pv 3) (pa_cons (pv 4) pa_nil)))
 (pss_nil)) (pss_nil))
 (pss_nil))))
 (pss_cons (ps_for PassesOwn.never rfl (pi_range1 (by rfl) T.z_range (pa_cons (pe_op op_add (pe_callB cr_lenS (by rfl) T.z_len bt_len (pa_cons (pv 0) (pa_nil))) (pe_int)) (pa_nil))) (pg_name (i := 5) sc__law_holds.nd rfl (by first | exact Or.inl rfl | exact Or.inr rfl)) (pss_cons (ps_if (pt_cmpR op_eq (pe_callB cr_lenS (by rfl) T.z_len bt_len (pa_cons (pv 3) pa_nil)) (pe_int) (nomark _)) (pss_cons (ps_ret (pe_non))
 (pss_nil)) (pss_nil))
 (pss_cons (ps_set (i := 4) sc__law_holds.nd rfl (by first | exact Or.inl rfl | exact Or.inr rfl) (pe_ix ix_list (pv 3) (pe_op op_sub (pe_callB cr_lenS (by rfl) T.z_len bt_len (pa_cons (pv 3) pa_nil)) (pe_int)) (fun _ _ => rfl)))
 (pss_cons (ps_set (i := 6) sc__law_holds.nd rfl (by first | exact Or.inl rfl | exact Or.inr rfl) (pe_call (ok__law_at T) (hr.mono (by decide)) (by rfl) T.g__law_at T.F__law_at.kp (b__law_at T) .nil pass0 (pa_cons (pv 0) (pa_cons (pv 2) (pa_cons (pv 4) (pa_nil))))))
 (pss_cons (ps_if (pt_cmpR op_isN1 (pv 6) (pe_non) (nomark _)) (pss_cons (ps_ret (pe_tup (pa_cons (pe_str) (pa_cons (pe_ix ix_list (pv 3) (pe_op op_sub (pe_callB cr_lenS (by rfl) T.z_len bt_len (pa_cons (pv 3) pa_nil)) (pe_int)) (fun _ _ => rfl)) (pa_cons (pv 4) (pa_nil))))))
 (pss_nil)) (pss_nil))
 (pss_cons (ps_if (pt_cmpR op_eq (pe_ix ix_tup (pv 6) (pe_int) (fun _ _ => rfl)) (pe_str) (nomark _)) (pss_cons (ps_ret (pe_tup (pa_cons (pe_str) (pa_cons (pv 4) (pa_cons (pe_ix ix_tup (pv 6) (pe_int) (fun _ _ => rfl)) (pa_cons (pe_ix ix_tup (pv 6) (pe_int) (fun _ _ => rfl)) (pa_nil)))))))
 (pss_nil)) (pss_nil))
 (pss_cons (ps_set (i := 7) sc__law_holds.nd rfl (by first | exact Or.inl rfl | exact Or.inr rfl) (pe_call (ok__law_hinders T) (hr.mono (by decide)) (by rfl) T.g__law_hinders T.F__law_hinders.kp (b__law_hinders T) .nil pass0 (pa_cons (pv 0) (pa_cons (pv 1) (pa_cons (pv 2) (pa_cons (pv 4) (pa_nil)))))))
 (pss_cons (ps_if (pt_cmpR op_in_seq (pv 7) (pv 3) (by with_unfolding_all rfl)) (pss_cons (ps_ret (pe_tup (pa_cons (pe_str) (pa_cons (pe_slice sl_list (pv 3) (po_some (pe_bm PySem.F.plainAttrs_list PySem.F.slot_list_index PySem.F.type_list_index mt_index (pv 3) (pa_cons (pv 7) pa_nil))) (po_none)) (pa_nil)))))
 (pss_nil)) (pss_nil))
 (pss_cons (ps_expr (pe_bm PySem.F.plainAttrs_list PySem.F.slot_list_append PySem.F.type_list_append mt_append (pv 3) (pa_cons (pv 7) pa_nil)))
 (pss_nil))))))))))
 (pss_cons (ps_ret (pe_non))
 (pss_nil)))), fun ds d h => by
    obtain ⟨flows, blocked, state, r, rfl, h, rfl⟩ := h
    unfold m__law_holds at h
    refine ⟨_, List.replicate 8 .un, sm_run (es := [.d (.lst (List.map (dL d_Stp) flows)), .d (.lst (List.map (dT4 Dt.int d_Plc Dt.int d_Plc) blocked)), .d ((dT2 (dV (dT3 Dt.int Dt.str (dO Dt.str))) (dV Dt.str)) state), .un, .un, .un, .un, .un]) (oc := fun (r : (Option Hld)) => .rt ((dO d_Hld) r) (List.replicate 8 .un)) h ?_, .inl rfl⟩
    exact sm_one <|
sm_as <|
sm_lt fun chain1 h_chain1 =>
sm_own (es' := [.d (.lst (List.map (dL d_Stp) flows)), .d (.lst (List.map (dT4 Dt.int d_Plc Dt.int d_Plc) blocked)), .d ((dT2 (dV (dT3 Dt.int Dt.str (dO Dt.str))) (dV Dt.str)) state), .own none (List.map Dt.int chain1), .un, .un, .un, .un]) (el_is (el_lst (ds := List.map Dt.int []) (ea_nil) (by simp)) (congrArg (List.map Dt.int) h_chain1)) rfl <|
sm_as <|
sm_bind fun r2 h_r2 =>
sm_thenF (env := fun (s : (List Int)) => [.d (.lst (List.map (dL d_Stp) flows)), .d (.lst (List.map (dT4 Dt.int d_Plc Dt.int d_Plc) blocked)), .d ((dT2 (dV (dT3 Dt.int Dt.str (dO Dt.str))) (dV Dt.str)) state), .own none (List.map Dt.int s), .un, .un, .un, .un]) (ed := fun r => (dO d_Hld) r) (ee := fun _ => List.replicate 8 .un) (sm_for (xs := r2) (em := Dt.int) (env := fun (s : (List Int)) => [.d (.lst (List.map (dL d_Stp) flows)), .d (.lst (List.map (dT4 Dt.int d_Plc Dt.int d_Plc) blocked)), .d ((dT2 (dV (dT3 Dt.int Dt.str (dO Dt.str))) (dV Dt.str)) state), .own none (List.map Dt.int s), .un, .un, .un, .un]) (en2 := fun (arm4 : Int) (s3 : (List Int)) => [.d (.lst (List.map (dL d_Stp) flows)), .d (.lst (List.map (dT4 Dt.int d_Plc Dt.int d_Plc) blocked)), .d ((dT2 (dV (dT3 Dt.int Dt.str (dO Dt.str))) (dV Dt.str)) state), .own none (List.map Dt.int s3), .d (.int arm4), .un, .un, .un]) (ei_rng1 (ea_cons (ev_lenLm (ev_var (i := 0) rfl)) (ea_nil)) h_r2) (wk_e <| wk_e <| wk_e <| wk_e <| wk_u <| wk_u <| wk_u <| wk_u <| wk_n) (fun arm4 s3 => eg_name (vs := [4]) (by simp)) fun arm4 s3 h_arm4 => sm_one <|
sm_as <|
sm_bind fun t5 h_t5 =>
sm_if (et_B (ev_call (ea_cons (ev_var (i := 0) rfl) (ea_cons (ev_var (i := 1) rfl) (ea_cons (ev_var (i := 2) rfl) (ea_cons (ev_var (i := 4) rfl) (ea_nil))))) ⟨flows, blocked, state, arm4, t5, rfl, h_t5, rfl⟩)) (fun hb =>
sm_as <|
sm_some (sev_rt (ev_non) (wk_uns rfl))) (fun hb =>
sm_nil <|
sm_as <|
sm_bind fun b7 h_b7 =>
sm_seq (env := fun (s : (List Int)) => [.d (.lst (List.map (dL d_Stp) flows)), .d (.lst (List.map (dT4 Dt.int d_Plc Dt.int d_Plc) blocked)), .d ((dT2 (dV (dT3 Dt.int Dt.str (dO Dt.str))) (dV Dt.str)) state), .own none (List.map Dt.int s), .d (.int arm4), .un, .un, .un]) (sm_one <| sm_if (et_andC (et_test (ev_eqI (ev_lenO (i := 3) rfl) (ev_int))) (fun _ => et_bnd fun t6 h_t6 => et_pure (et_test (ev_nisO (em := d_Stp) (fun x h => by cases x <;> cases h) (ev_call (ea_cons (ev_var (i := 0) rfl) (ea_cons (ev_var (i := 2) rfl) (ea_cons (ev_var (i := 4) rfl) (ea_nil)))) ⟨flows, state, arm4, t6, rfl, h_t6, rfl⟩)))) h_b7) (fun hb =>
sm_as <|
sm_bind fun chain8 h_chain8 =>
sm_app (i := 3) (x := arm4) (es' := [.d (.lst (List.map (dL d_Stp) flows)), .d (.lst (List.map (dT4 Dt.int d_Plc Dt.int d_Plc) blocked)), .d ((dT2 (dV (dT3 Dt.int Dt.str (dO Dt.str))) (dV Dt.str)) state), .own none (List.map Dt.int chain8), .d (.int arm4), .un, .un, .un]) (em := Dt.int) rfl (ev_var (i := 4) rfl) h_chain8 rfl <|
sm_nil <|
sm_some (sev_nx (wk_e <| wk_e <| wk_e <| wk_e <| wk_e <| wk_u <| wk_u <| wk_u <| wk_n))) (fun hb =>
sm_nil <|
sm_some (sev_nx (wk_e <| wk_e <| wk_e <| wk_e <| wk_e <| wk_u <| wk_u <| wk_u <| wk_n)))) fun s9 h_s9 =>
sm_nil <|
sm_some (sev_go (wk_e <| wk_e <| wk_e <| wk_e <| wk_u <| wk_u <| wk_u <| wk_u <| wk_n)))) (fun s10 =>
sm_as <|
sm_bind fun r11 h_r11 =>
sm_thenF (env := fun (s : (List Int)) => [.d (.lst (List.map (dL d_Stp) flows)), .d (.lst (List.map (dT4 Dt.int d_Plc Dt.int d_Plc) blocked)), .d ((dT2 (dV (dT3 Dt.int Dt.str (dO Dt.str))) (dV Dt.str)) state), .own none (List.map Dt.int s), .un, .un, .un, .un]) (ed := fun r => (dO d_Hld) r) (ee := fun _ => List.replicate 8 .un) (sm_for (xs := r11) (em := Dt.int) (env := fun (s : (List Int)) => [.d (.lst (List.map (dL d_Stp) flows)), .d (.lst (List.map (dT4 Dt.int d_Plc Dt.int d_Plc) blocked)), .d ((dT2 (dV (dT3 Dt.int Dt.str (dO Dt.str))) (dV Dt.str)) state), .own none (List.map Dt.int s), .un, .un, .un, .un]) (en2 := fun (k13 : Int) (s12 : (List Int)) => [.d (.lst (List.map (dL d_Stp) flows)), .d (.lst (List.map (dT4 Dt.int d_Plc Dt.int d_Plc) blocked)), .d ((dT2 (dV (dT3 Dt.int Dt.str (dO Dt.str))) (dV Dt.str)) state), .own none (List.map Dt.int s12), .un, .d (.int k13), .un, .un]) (ei_rng1 (ea_cons (ev_add (ev_lenLm (ev_var (i := 0) rfl)) (ev_int)) (ea_nil)) h_r11) (wk_e <| wk_e <| wk_e <| wk_e <| wk_u <| wk_u <| wk_u <| wk_u <| wk_n) (fun k13 s12 => eg_name (vs := [5]) (by simp)) fun k13 s12 h_k13 => sm_one <|
sm_as <|
sm_if (et_test (ev_eqI (ev_lenO (i := 3) rfl) (ev_int))) (fun hb =>
sm_as <|
sm_some (sev_rt (ev_non) (wk_uns rfl))) (fun hb =>
sm_nil <|
sm_as <|
sm_bind fun t14 h_t14 =>
sm_set (es' := [.d (.lst (List.map (dL d_Stp) flows)), .d (.lst (List.map (dT4 Dt.int d_Plc Dt.int d_Plc) blocked)), .d ((dT2 (dV (dT3 Dt.int Dt.str (dO Dt.str))) (dV Dt.str)) state), .own none (List.map Dt.int s12), .d (.int t14), .d (.int k13), .un, .un]) (ev_ixOC (j := 3) (em := Dt.int) rfl (ev_sub (ev_lenO (i := 3) rfl) (ev_int)) h_t14) rfl <|
sm_as <|
sm_bind fun t15 h_t15 =>
sm_set (es' := [.d (.lst (List.map (dL d_Stp) flows)), .d (.lst (List.map (dT4 Dt.int d_Plc Dt.int d_Plc) blocked)), .d ((dT2 (dV (dT3 Dt.int Dt.str (dO Dt.str))) (dV Dt.str)) state), .own none (List.map Dt.int s12), .d (.int t14), .d (.int k13), .d ((dO d_Stp) t15), .un]) (ev_call (ea_cons (ev_var (i := 0) rfl) (ea_cons (ev_var (i := 2) rfl) (ea_cons (ev_var (i := 4) rfl) (ea_nil)))) ⟨flows, state, t14, t15, rfl, h_t15, rfl⟩) rfl <|
sm_as <|
sm_if (et_test (ev_isO (em := d_Stp) (fun x h => by cases x <;> cases h) (ev_var (i := 6) rfl))) (fun hb =>
sm_as <|
sm_bind fun t16 h_t16 =>
sm_some (sev_rt (ev_is (ev_tup (ea_cons (ev_str) (ea_cons (ev_ixOC (j := 3) (em := Dt.int) rfl (ev_sub (ev_lenO (i := 3) rfl) (ev_int)) h_t16) (ea_cons (ev_var (i := 4) rfl) (ea_nil)))) (by simp)) rfl) (wk_uns rfl))) (fun hb =>
sm_nil <|
sm_as <|
sm_bind fun o17 h_o17 =>
sm_if (et_test (ev_eqS (ev_ixR (ev_some (em := d_Stp) h_o17 (ev_var (i := 6) rfl)) (ev_int) (d_Stp_word _)) (ev_str))) (fun hb =>
sm_as <|
sm_bind fun o18 h_o18 =>
sm_bind fun t19 h_t19 =>
sm_bind fun o20 h_o20 =>
sm_bind fun t21 h_t21 =>
sm_some (sev_rt (ev_is (ev_tup (ea_cons (ev_str) (ea_cons (ev_var (i := 4) rfl) (ea_cons (ev_ixR (ev_some (em := d_Stp) h_o18 (ev_var (i := 6) rfl)) (ev_int) (d_Stp_at1S h_t19)) (ea_cons (ev_ixR (ev_some (em := d_Stp) h_o20 (ev_var (i := 6) rfl)) (ev_int) (d_Stp_at2B h_t21)) (ea_nil))))) (by simp)) rfl) (wk_uns rfl))) (fun hb =>
sm_nil <|
sm_as <|
sm_bind fun t22 h_t22 =>
sm_set (es' := [.d (.lst (List.map (dL d_Stp) flows)), .d (.lst (List.map (dT4 Dt.int d_Plc Dt.int d_Plc) blocked)), .d ((dT2 (dV (dT3 Dt.int Dt.str (dO Dt.str))) (dV Dt.str)) state), .own none (List.map Dt.int s12), .d (.int t14), .d (.int k13), .d ((dO d_Stp) t15), .d ((dO Dt.int) t22)]) (ev_call (ea_cons (ev_var (i := 0) rfl) (ea_cons (ev_var (i := 1) rfl) (ea_cons (ev_var (i := 2) rfl) (ea_cons (ev_var (i := 4) rfl) (ea_nil))))) ⟨flows, blocked, state, t14, t22, rfl, h_t22, rfl⟩) rfl <|
sm_as <|
sm_bind fun o23 h_o23 =>
sm_if (et_test (ev_borrow (es' := [.d (.lst (List.map (dL d_Stp) flows)), .d (.lst (List.map (dT4 Dt.int d_Plc Dt.int d_Plc) blocked)), .d ((dT2 (dV (dT3 Dt.int Dt.str (dO Dt.str))) (dV Dt.str)) state), .d (.lst (List.map Dt.int s12)), .d (.int t14), .d (.int k13), .d ((dO d_Stp) t15), .d ((dO Dt.int) t22)]) ⟨.inr (.inl ⟨rfl, rfl⟩), .inr (.inl ⟨rfl, rfl⟩), .inr (.inl ⟨rfl, rfl⟩), .inr (.inr ⟨_, _, rfl, rfl⟩), .inr (.inl ⟨rfl, rfl⟩), .inr (.inl ⟨rfl, rfl⟩), .inr (.inl ⟨rfl, rfl⟩), .inr (.inl ⟨rfl, rfl⟩), trivial⟩ (ev_inLI (xs := s12) (ev_some (em := Dt.int) h_o23 (ev_var (i := 7) rfl)) (ev_var (i := 3) rfl)) flat_bl)) (fun hb =>
sm_as <|
sm_frz (i := 3) (es' := [.d (.lst (List.map (dL d_Stp) flows)), .d (.lst (List.map (dT4 Dt.int d_Plc Dt.int d_Plc) blocked)), .d ((dT2 (dV (dT3 Dt.int Dt.str (dO Dt.str))) (dV Dt.str)) state), .d (.lst (List.map Dt.int s12)), .d (.int t14), .d (.int k13), .d ((dO d_Stp) t15), .d ((dO Dt.int) t22)]) rfl rfl <|
sm_bind fun o24 h_o24 =>
sm_bind fun t25 h_t25 =>
sm_some (sev_rt (ev_is (ev_tup (ea_cons (ev_str) (ea_cons (ev_new (el_cut (em := Dt.int) (ev_var (i := 3) rfl) (eo_some (ev_lIdx (ev_var (i := 3) rfl) (ev_some (em := Dt.int) h_o24 (ev_var (i := 7) rfl)) h_t25)) (eo_none))) (ea_nil))) (by simp)) rfl) (wk_uns rfl))) (fun hb =>
sm_nil <|
sm_as <|
sm_bind fun o26 h_o26 =>
sm_bind fun chain27 h_chain27 =>
sm_app (i := 3) (x := o26) (es' := [.d (.lst (List.map (dL d_Stp) flows)), .d (.lst (List.map (dT4 Dt.int d_Plc Dt.int d_Plc) blocked)), .d ((dT2 (dV (dT3 Dt.int Dt.str (dO Dt.str))) (dV Dt.str)) state), .own none (List.map Dt.int chain27), .d (.int t14), .d (.int k13), .d ((dO d_Stp) t15), .d ((dO Dt.int) t22)]) (em := Dt.int) rfl (ev_some (em := Dt.int) h_o26 (ev_var (i := 7) rfl)) h_chain27 rfl <|
sm_nil <|
sm_some (sev_go (wk_e <| wk_e <| wk_e <| wk_e <| wk_u <| wk_u <| wk_u <| wk_u <| wk_n))))))) (fun s28 =>
sm_as <|
sm_some (sev_rt (ev_non) (wk_uns rfl))) (fun _ => rfl)) (fun _ => rfl)⟩
theorem sc__law_moved : FnScope ["_law_flows", "_law_state", "_law_arm", "_law_at_here", "_law_point", "_law_held", "_law_signals", "_law_spots"] ["_law_flows", "_law_state", "_law_arm", "_law_at_here", "_law_point", "_law_held", "_law_signals"] (defScope (topS 20)) := ⟨rfl, rfl, rfl, by decide +kernel, rfl, by decide +kernel, by decide +kernel⟩
theorem b__law_moved (T : Top K mg A) : Binds K A.d__law_moved ["_law_flows", "_law_state", "_law_arm", "_law_at_here", "_law_point", "_law_held", "_law_signals"] [] := T.F__law_moved.binds (ps := ["_law_flows", "_law_state", "_law_arm", "_law_at_here", "_law_point", "_law_held", "_law_signals"]) fun _ _ _ _ _ _ us hl => match us, hl with | [_, _, _, _, _, _, _], _ => rfl
def P__law_moved (A : Ads) (ds : List Dt) (d : Dt) : Prop := ∃ (flows : (List (List Stp))) (state : ((List (Int × Str × (Option Str))) × (List Str))) (arm : Int) (at_here : Int) (point : Str) (held : (Option Str)) (signals : (List Str)) (r : ((List (Int × Str × (Option Str))) × (List Str))), ds = [.lst (List.map (dL d_Stp) flows), (dT2 (dV (dT3 Dt.int Dt.str (dO Dt.str))) (dV Dt.str)) state, .int arm, .int at_here, .str point, (dO Dt.str) held, .lst (List.map Dt.str signals)] ∧ m__law_moved flows state arm at_here point held signals = some r ∧ d = (dT2 (dV (dT3 Dt.int Dt.str (dO Dt.str))) (dV Dt.str)) r
set_option maxHeartbeats 4000000 in
theorem ok__law_moved (T : Top K mg A) : FnOk P A.w K mg base CX0 2 A.f__law_moved A.d__law_moved ["_law_flows", "_law_state", "_law_arm", "_law_at_here", "_law_point", "_law_held", "_law_signals"] (FSpec K (RD (P__law_moved A))) :=
  fn_D T.F__law_moved sc__law_moved (fun ds d h => by obtain ⟨flows, state, arm, at_here, point, held, signals, r, rfl, _, _⟩ := h; rfl) fun cdv A1 outer s H E hr => ⟨_, pss_cons (ps_set (i := 7) sc__law_moved.nd rfl (by first | exact Or.inl rfl | exact Or.inr rfl) (pe_callTy cr_listS (by rfl) T.z_list bt_list (pa_cons (pe_ix ix_tup (pv 1) (pe_int) (fun _ _ => rfl)) (pa_nil))))
 (pss_cons (ps_asg (pe_tup (pa_cons (pe_call (ok__law_landing T) (hr.mono (by decide)) (by rfl) T.g__law_landing T.F__law_landing.kp (b__law_landing T) .nil pass0 (pa_cons (pe_ix ix_list (pv 0) (pv 2) (fun _ _ => rfl)) (pa_cons (pv 3) (pa_nil)))) (pa_cons (pv 4) (pa_cons (pv 5) (pa_nil))))) (pg_sub (pv 7) (pv 2) set_list))
 (pss_cons (ps_ret (pe_tup (pa_cons (pe_callTy cr_tupS (by rfl) T.z_tuple bt_tuple (pa_cons (pv 7) pa_nil)) (pa_cons (pe_callTy (cr_tupSK (K := K) rfl) (by rfl) T.z_tuple bt_tuple (pa_cons (pv 6) (pa_nil))) (pa_nil)))))
 (pss_nil))), fun ds d h => by
    obtain ⟨flows, state, arm, at_here, point, held, signals, r, rfl, h, rfl⟩ := h
    unfold m__law_moved at h
    refine ⟨_, List.replicate 8 .un, sm_run (es := [.d (.lst (List.map (dL d_Stp) flows)), .d ((dT2 (dV (dT3 Dt.int Dt.str (dO Dt.str))) (dV Dt.str)) state), .d (.int arm), .d (.int at_here), .d (.str point), .d ((dO Dt.str) held), .d (.lst (List.map Dt.str signals)), .un]) (oc := fun (r : ((List (Int × Str × (Option Str))) × (List Str))) => .rt ((dT2 (dV (dT3 Dt.int Dt.str (dO Dt.str))) (dV Dt.str)) r) (List.replicate 8 .un)) h ?_, .inl rfl⟩
    exact sm_one <|
sm_as <|
sm_lt fun spots1 h_spots1 =>
sm_own (es' := [.d (.lst (List.map (dL d_Stp) flows)), .d ((dT2 (dV (dT3 Dt.int Dt.str (dO Dt.str))) (dV Dt.str)) state), .d (.int arm), .d (.int at_here), .d (.str point), .d ((dO Dt.str) held), .d (.lst (List.map Dt.str signals)), .own none (List.map (dT3 Dt.int Dt.str (dO Dt.str)) spots1)]) (el_is (el_listV (ev_ixNG 0 rfl rfl (ev_var (i := 1) rfl) (ev_int))) (congrArg (List.map (dT3 Dt.int Dt.str (dO Dt.str))) h_spots1)) rfl <|
sm_as <|
sm_bind fun t2 h_t2 =>
sm_bind fun t3 h_t3 =>
sm_bind fun spots4 h_spots4 =>
sm_setL (i := 7) (x := (t3, point, held)) (es' := [.d (.lst (List.map (dL d_Stp) flows)), .d ((dT2 (dV (dT3 Dt.int Dt.str (dO Dt.str))) (dV Dt.str)) state), .d (.int arm), .d (.int at_here), .d (.str point), .d ((dO Dt.str) held), .d (.lst (List.map Dt.str signals)), .own none (List.map (dT3 Dt.int Dt.str (dO Dt.str)) spots4)]) (em := (dT3 Dt.int Dt.str (dO Dt.str))) rfl (ev_tup (ea_cons (ev_call (ea_cons (ev_ixLC (em := (dL d_Stp)) (ev_var (i := 0) rfl) (ev_var (i := 2) rfl) h_t2) (ea_cons (ev_var (i := 3) rfl) (ea_nil))) ⟨t2, at_here, t3, rfl, h_t3, rfl⟩) (ea_cons (ev_var (i := 4) rfl) (ea_cons (ev_var (i := 5) rfl) (ea_nil)))) (by simp)) (ev_var (i := 2) rfl) h_spots4 rfl <|
sm_as <|
sm_some (sev_rt (ev_tup (ea_cons (ev_tupO (i := 7) rfl) (ea_cons (ev_tupL (ev_var (i := 6) rfl)) (ea_nil))) (by simp)) (wk_uns rfl))⟩
theorem sc__law_outcomes : FnScope ["_law_flows", "_law_state", "_law_arm", "_law_step_here", "_law_at_here", "_law_point", "_law_held", "_law_signals", "_law_name", "_law_after"] ["_law_flows", "_law_state", "_law_arm"] (defScope (topS 21)) := ⟨rfl, rfl, rfl, by decide +kernel, rfl, by decide +kernel, by decide +kernel⟩
theorem b__law_outcomes (T : Top K mg A) : Binds K A.d__law_outcomes ["_law_flows", "_law_state", "_law_arm"] [] := T.F__law_outcomes.binds (ps := ["_law_flows", "_law_state", "_law_arm"]) fun _ _ _ _ _ _ us hl => match us, hl with | [_, _, _], _ => rfl
def P__law_outcomes (A : Ads) (ds : List Dt) (d : Dt) : Prop := ∃ (flows : (List (List Stp))) (state : ((List (Int × Str × (Option Str))) × (List Str))) (arm : Int) (r : (List ((List (Int × Str × (Option Str))) × (List Str)))), ds = [.lst (List.map (dL d_Stp) flows), (dT2 (dV (dT3 Dt.int Dt.str (dO Dt.str))) (dV Dt.str)) state, .int arm] ∧ m__law_outcomes flows state arm = some r ∧ d = .lst (List.map (dT2 (dV (dT3 Dt.int Dt.str (dO Dt.str))) (dV Dt.str)) r)
set_option maxHeartbeats 4000000 in
theorem ok__law_outcomes (T : Top K mg A) : FnOk P A.w K mg base CX0 3 A.f__law_outcomes A.d__law_outcomes ["_law_flows", "_law_state", "_law_arm"] (FSpec K (RD (P__law_outcomes A))) :=
  fn_D T.F__law_outcomes sc__law_outcomes (fun ds d h => by obtain ⟨flows, state, arm, r, rfl, _, _⟩ := h; rfl) fun cdv A1 outer s H E hr => ⟨_, pss_cons (ps_set (i := 3) sc__law_outcomes.nd rfl (by first | exact Or.inl rfl | exact Or.inr rfl) (pe_call (ok__law_at T) (hr.mono (by decide)) (by rfl) T.g__law_at T.F__law_at.kp (b__law_at T) .nil pass0 (pa_cons (pv 0) (pa_cons (pv 1) (pa_cons (pv 2) (pa_nil))))))
 (pss_cons (ps_if (pt_cmpR op_isN1 (pv 3) (pe_non) (nomark _)) (pss_cons (ps_ret (pe_lst (pa_nil)))
 (pss_nil)) (pss_nil))
 (pss_cons (ps_asg (pe_ix ix_tup (pe_ix ix_tup (pv 1) (pe_int) (fun _ _ => rfl)) (pv 2) (fun _ _ => rfl)) (pg_tup rfl (pgs_cons (pg_name (i := 4) sc__law_outcomes.nd rfl (by first | exact Or.inl rfl | exact Or.inr rfl)) (pgs_cons (pg_name (i := 5) sc__law_outcomes.nd rfl (by first | exact Or.inl rfl | exact Or.inr rfl)) (pgs_cons (pg_name (i := 6) sc__law_outcomes.nd rfl (by first | exact Or.inl rfl | exact Or.inr rfl)) (pgs_nil))))))
 (pss_cons (ps_set (i := 7) sc__law_outcomes.nd rfl (by first | exact Or.inl rfl | exact Or.inr rfl) (pe_callTy cr_listS (by rfl) T.z_list bt_list (pa_cons (pe_ix ix_tup (pv 1) (pe_int) (fun _ _ => rfl)) (pa_nil))))
 (pss_cons (ps_if (pt_cmpR op_eq (pe_ix ix_tup (pv 3) (pe_int) (fun _ _ => rfl)) (pe_str) (nomark _)) (pss_cons (ps_set (i := 5) sc__law_outcomes.nd rfl (by first | exact Or.inl rfl | exact Or.inr rfl) (pe_ix ix_tup (pv 3) (pe_int) (fun _ _ => rfl)))
 (pss_nil)) (pss_nil))
 (pss_cons (ps_if (pt_cmpR op_eq (pe_ix ix_tup (pv 3) (pe_int) (fun _ _ => rfl)) (pe_str) (nomark _)) (pss_cons (ps_set (i := 6) sc__law_outcomes.nd rfl (by first | exact Or.inl rfl | exact Or.inr rfl) (pe_ix ix_tup (pv 3) (pe_int) (fun _ _ => rfl)))
 (pss_nil)) (pss_nil))
 (pss_cons (ps_if (PW.pt (pw_and (pt_cmpR op_eq (pe_ix ix_tup (pv 3) (pe_int) (fun _ _ => rfl)) (pe_str) (nomark _)) (pw_and (pt_val (pe_ix ix_tup (pv 3) (pe_int) (fun _ _ => rfl))) (pw_and1 (pt_cmpR op_notIn_seq (pe_ix ix_tup (pv 3) (pe_int) (fun _ _ => rfl)) (pv 7) (by with_unfolding_all rfl)))))) (pss_cons (ps_expr (pe_bm PySem.F.plainAttrs_list PySem.F.slot_list_append PySem.F.type_list_append mt_append (pv 7) (pa_cons (pe_ix ix_tup (pv 3) (pe_int) (fun _ _ => rfl)) pa_nil)))
 (pss_nil)) (pss_nil))
 (pss_cons (ps_if (PW.pt (pw_and (pt_cmpR op_eq (pe_ix ix_tup (pv 3) (pe_int) (fun _ _ => rfl)) (pe_str) (nomark _)) (pw_and1 (pt_not (pt_val (pe_ix ix_tup (pv 3) (pe_int) (fun _ _ => rfl))))))) (pss_cons (ps_setLc (i := 7) (own := [("_law_name", 8)]) (g := gName 8) rfl sc__law_outcomes.nd rfl rfl (sw_true rfl rfl rfl (by decide +kernel)) (pi_list (pv 7)) (blkOk_by (N := ["_law_flows", "_law_state", "_law_arm", "_law_step_here", "_law_at_here", "_law_point", "_law_held", "_law_signals", "_law_name", "_law_after"]) (sc := defScope (topS 21)) (by decide +kernel)) (fun _ _ _ _ _ => pg_name (i := 8) sc__law_outcomes.nd rfl (by first | exact Or.inl rfl | exact Or.inr rfl)) (fun _ _ _ _ _ => pts_one (pt_cmpR op_ne (pv 8) (pe_ix ix_tup (pv 3) (pe_int) (fun _ _ => rfl)) (nomark _))) (fun _ _ _ _ _ => pv 8))
 (pss_nil)) (pss_nil))
 (pss_cons (ps_set (i := 9) sc__law_outcomes.nd rfl (by first | exact Or.inl rfl | exact Or.inr rfl) (pe_lst (pa_cons (pe_call (ok__law_moved T) (hr.mono (by decide)) (by rfl) T.g__law_moved T.F__law_moved.kp (b__law_moved T) .nil pass0 (pa_cons (pv 0) (pa_cons (pv 1) (pa_cons (pv 2) (pa_cons (pe_op op_add (pv 4) (pe_int)) (pa_cons (pv 5) (pa_cons (pv 6) (pa_cons (pv 7) (pa_nil))))))))) (pa_nil))))
 (pss_cons (ps_if (pt_cmpR op_eq (pe_ix ix_tup (pv 3) (pe_int) (fun _ _ => rfl)) (pe_str) (nomark _)) (pss_cons (ps_expr (pe_bm PySem.F.plainAttrs_list PySem.F.slot_list_append PySem.F.type_list_append mt_append (pv 9) (pa_cons (pe_call (ok__law_moved T) (hr.mono (by decide)) (by rfl) T.g__law_moved T.F__law_moved.kp (b__law_moved T) .nil pass0 (pa_cons (pv 0) (pa_cons (pv 1) (pa_cons (pv 2) (pa_cons (pe_ix ix_tup (pv 3) (pe_int) (fun _ _ => rfl)) (pa_cons (pv 5) (pa_cons (pv 6) (pa_cons (pv 7) (pa_nil))))))))) pa_nil)))
 (pss_nil)) (pss_nil))
 (pss_cons (ps_ret (pv 9))
 (pss_nil))))))))))), fun ds d h => by
    obtain ⟨flows, state, arm, r, rfl, h, rfl⟩ := h
    unfold m__law_outcomes at h
    refine ⟨_, List.replicate 10 .un, sm_run (es := [.d (.lst (List.map (dL d_Stp) flows)), .d ((dT2 (dV (dT3 Dt.int Dt.str (dO Dt.str))) (dV Dt.str)) state), .d (.int arm), .un, .un, .un, .un, .un, .un, .un]) (oc := fun (r : (List ((List (Int × Str × (Option Str))) × (List Str)))) => .rt (.lst (List.map (dT2 (dV (dT3 Dt.int Dt.str (dO Dt.str))) (dV Dt.str)) r)) (List.replicate 10 .un)) h ?_, .inl rfl⟩
    exact sm_one <|
sm_as <|
sm_bind fun t1 h_t1 =>
sm_set (es' := [.d (.lst (List.map (dL d_Stp) flows)), .d ((dT2 (dV (dT3 Dt.int Dt.str (dO Dt.str))) (dV Dt.str)) state), .d (.int arm), .d ((dO d_Stp) t1), .un, .un, .un, .un, .un, .un]) (ev_call (ea_cons (ev_var (i := 0) rfl) (ea_cons (ev_var (i := 1) rfl) (ea_cons (ev_var (i := 2) rfl) (ea_nil)))) ⟨flows, state, arm, t1, rfl, h_t1, rfl⟩) rfl <|
sm_as <|
sm_if (et_test (ev_isO (em := d_Stp) (fun x h => by cases x <;> cases h) (ev_var (i := 3) rfl))) (fun hb =>
sm_as <|
sm_some (sev_rt (ev_new (el_lst (ds := List.map (dT2 (dV (dT3 Dt.int Dt.str (dO Dt.str))) (dV Dt.str)) []) (ea_nil) (by simp))) (wk_uns rfl))) (fun hb =>
sm_nil <|
sm_as <|
sm_bind fun t2 h_t2 =>
sm_asgG (es' := [.d (.lst (List.map (dL d_Stp) flows)), .d ((dT2 (dV (dT3 Dt.int Dt.str (dO Dt.str))) (dV Dt.str)) state), .d (.int arm), .d ((dO d_Stp) t1), .d (.int t2.1), .d (.str t2.2.1), .d ((dO Dt.str) t2.2.2), .un, .un, .un]) (ev_ixTC (em := (dT3 Dt.int Dt.str (dO Dt.str))) (ev_ixNG 0 rfl rfl (ev_var (i := 1) rfl) (ev_int)) (ev_var (i := 2) rfl) h_t2) (eg_tup (egs_cons (eg_name (vs := [4, 5, 6]) (by simp)) (egs_cons (eg_name (vs := [4, 5, 6]) (by simp)) (egs_cons (eg_name (vs := [4, 5, 6]) (by simp)) (egs_nil)))) rfl) <|
sm_as <|
sm_lt fun signals3 h_signals3 =>
sm_own (es' := [.d (.lst (List.map (dL d_Stp) flows)), .d ((dT2 (dV (dT3 Dt.int Dt.str (dO Dt.str))) (dV Dt.str)) state), .d (.int arm), .d ((dO d_Stp) t1), .d (.int t2.1), .d (.str t2.2.1), .d ((dO Dt.str) t2.2.2), .own none (List.map Dt.str signals3), .un, .un]) (el_is (el_listV (ev_ixNG 1 rfl rfl (ev_var (i := 1) rfl) (ev_int))) (congrArg (List.map Dt.str) h_signals3)) rfl <|
sm_as <|
sm_bind fun o4 h_o4 =>
sm_seq (env := fun (s : Str) => [.d (.lst (List.map (dL d_Stp) flows)), .d ((dT2 (dV (dT3 Dt.int Dt.str (dO Dt.str))) (dV Dt.str)) state), .d (.int arm), .d ((dO d_Stp) t1), .d (.int t2.1), .d (.str s), .d ((dO Dt.str) t2.2.2), .own none (List.map Dt.str signals3), .un, .un]) (sm_one <| sm_if (et_test (ev_eqS (ev_ixR (ev_some (em := d_Stp) h_o4 (ev_var (i := 3) rfl)) (ev_int) (d_Stp_word _)) (ev_str))) (fun hb =>
sm_as <|
sm_bind fun o5 h_o5 =>
sm_bind fun t6 h_t6 =>
sm_set (es' := [.d (.lst (List.map (dL d_Stp) flows)), .d ((dT2 (dV (dT3 Dt.int Dt.str (dO Dt.str))) (dV Dt.str)) state), .d (.int arm), .d ((dO d_Stp) t1), .d (.int t2.1), .d (.str t6), .d ((dO Dt.str) t2.2.2), .own none (List.map Dt.str signals3), .un, .un]) (ev_ixR (ev_some (em := d_Stp) h_o5 (ev_var (i := 3) rfl)) (ev_int) (d_Stp_at1S h_t6)) rfl <|
sm_nil <|
sm_some (sev_nx (wk_e <| wk_e <| wk_e <| wk_e <| wk_e <| wk_e <| wk_e <| wk_e <| wk_u <| wk_u <| wk_n))) (fun hb =>
sm_nil <|
sm_some (sev_nx (wk_e <| wk_e <| wk_e <| wk_e <| wk_e <| wk_e <| wk_e <| wk_e <| wk_u <| wk_u <| wk_n)))) fun s7 h_s7 =>
sm_as <|
sm_bind fun o8 h_o8 =>
sm_seq (env := fun (s : (Option Str)) => [.d (.lst (List.map (dL d_Stp) flows)), .d ((dT2 (dV (dT3 Dt.int Dt.str (dO Dt.str))) (dV Dt.str)) state), .d (.int arm), .d ((dO d_Stp) t1), .d (.int t2.1), .d (.str s7), .d ((dO Dt.str) s), .own none (List.map Dt.str signals3), .un, .un]) (sm_one <| sm_if (et_test (ev_eqS (ev_ixR (ev_some (em := d_Stp) h_o8 (ev_var (i := 3) rfl)) (ev_int) (d_Stp_word _)) (ev_str))) (fun hb =>
sm_as <|
sm_bind fun o9 h_o9 =>
sm_bind fun t10 h_t10 =>
sm_set (es' := [.d (.lst (List.map (dL d_Stp) flows)), .d ((dT2 (dV (dT3 Dt.int Dt.str (dO Dt.str))) (dV Dt.str)) state), .d (.int arm), .d ((dO d_Stp) t1), .d (.int t2.1), .d (.str s7), .d ((dO Dt.str) t10), .own none (List.map Dt.str signals3), .un, .un]) (ev_ixR (ev_some (em := d_Stp) h_o9 (ev_var (i := 3) rfl)) (ev_int) (d_Stp_at1O h_t10)) rfl <|
sm_nil <|
sm_some (sev_nx (wk_e <| wk_e <| wk_e <| wk_e <| wk_e <| wk_e <| wk_e <| wk_e <| wk_u <| wk_u <| wk_n))) (fun hb =>
sm_nil <|
sm_some (sev_nx (wk_e <| wk_e <| wk_e <| wk_e <| wk_e <| wk_e <| wk_e <| wk_e <| wk_u <| wk_u <| wk_n)))) fun s11 h_s11 =>
sm_as <|
sm_bind fun o12 h_o12 =>
sm_bind fun b18 h_b18 =>
sm_seq (env := fun (s : (List Str)) => [.d (.lst (List.map (dL d_Stp) flows)), .d ((dT2 (dV (dT3 Dt.int Dt.str (dO Dt.str))) (dV Dt.str)) state), .d (.int arm), .d ((dO d_Stp) t1), .d (.int t2.1), .d (.str s7), .d ((dO Dt.str) s11), .own none (List.map Dt.str s), .un, .un]) (sm_one <| sm_if (et_andC (et_test (ev_eqS (ev_ixR (ev_some (em := d_Stp) h_o12 (ev_var (i := 3) rfl)) (ev_int) (d_Stp_word _)) (ev_str))) (fun _ => et_bnd fun o13 h_o13 => et_bnd fun t14 h_t14 => et_bnd fun b17 h_b17 => et_pure (et_andC (et_B (ev_ixR (ev_some (em := d_Stp) h_o13 (ev_var (i := 3) rfl)) (ev_int) (d_Stp_at2B h_t14))) (fun _ => et_bnd fun o15 h_o15 => et_bnd fun t16 h_t16 => et_pure (et_test (ev_borrow (es' := [.d (.lst (List.map (dL d_Stp) flows)), .d ((dT2 (dV (dT3 Dt.int Dt.str (dO Dt.str))) (dV Dt.str)) state), .d (.int arm), .d ((dO d_Stp) t1), .d (.int t2.1), .d (.str s7), .d ((dO Dt.str) s11), .d (.lst (List.map Dt.str signals3)), .un, .un]) ⟨.inr (.inl ⟨rfl, rfl⟩), .inr (.inl ⟨rfl, rfl⟩), .inr (.inl ⟨rfl, rfl⟩), .inr (.inl ⟨rfl, rfl⟩), .inr (.inl ⟨rfl, rfl⟩), .inr (.inl ⟨rfl, rfl⟩), .inr (.inl ⟨rfl, rfl⟩), .inr (.inr ⟨_, _, rfl, rfl⟩), .inl rfl, .inl rfl, trivial⟩ (ev_ninLS (xs := signals3) (ev_ixR (ev_some (em := d_Stp) h_o15 (ev_var (i := 3) rfl)) (ev_int) (d_Stp_at1S h_t16)) (ev_var (i := 7) rfl)) flat_bl))) h_b17)) h_b18) (fun hb =>
sm_as <|
sm_bind fun o19 h_o19 =>
sm_bind fun t20 h_t20 =>
sm_bind fun signals21 h_signals21 =>
sm_app (i := 7) (x := t20) (es' := [.d (.lst (List.map (dL d_Stp) flows)), .d ((dT2 (dV (dT3 Dt.int Dt.str (dO Dt.str))) (dV Dt.str)) state), .d (.int arm), .d ((dO d_Stp) t1), .d (.int t2.1), .d (.str s7), .d ((dO Dt.str) s11), .own none (List.map Dt.str signals21), .un, .un]) (em := Dt.str) rfl (ev_ixR (ev_some (em := d_Stp) h_o19 (ev_var (i := 3) rfl)) (ev_int) (d_Stp_at1S h_t20)) h_signals21 rfl <|
sm_nil <|
sm_some (sev_nx (wk_e <| wk_e <| wk_e <| wk_e <| wk_e <| wk_e <| wk_e <| wk_e <| wk_u <| wk_u <| wk_n))) (fun hb =>
sm_nil <|
sm_some (sev_nx (wk_e <| wk_e <| wk_e <| wk_e <| wk_e <| wk_e <| wk_e <| wk_e <| wk_u <| wk_u <| wk_n)))) fun s22 h_s22 =>
sm_as <|
sm_bind fun o23 h_o23 =>
sm_bind fun b26 h_b26 =>
sm_seq (env := fun (s : (List Str)) => [.d (.lst (List.map (dL d_Stp) flows)), .d ((dT2 (dV (dT3 Dt.int Dt.str (dO Dt.str))) (dV Dt.str)) state), .d (.int arm), .d ((dO d_Stp) t1), .d (.int t2.1), .d (.str s7), .d ((dO Dt.str) s11), .own none (List.map Dt.str s), .un, .un]) (sm_one <| sm_if (et_andC (et_test (ev_eqS (ev_ixR (ev_some (em := d_Stp) h_o23 (ev_var (i := 3) rfl)) (ev_int) (d_Stp_word _)) (ev_str))) (fun _ => et_bnd fun o24 h_o24 => et_bnd fun t25 h_t25 => et_pure (et_not (et_B (ev_ixR (ev_some (em := d_Stp) h_o24 (ev_var (i := 3) rfl)) (ev_int) (d_Stp_at2B h_t25))))) h_b26) (fun hb =>
sm_as <|
sm_frz (i := 7) (es' := [.d (.lst (List.map (dL d_Stp) flows)), .d ((dT2 (dV (dT3 Dt.int Dt.str (dO Dt.str))) (dV Dt.str)) state), .d (.int arm), .d ((dO d_Stp) t1), .d (.int t2.1), .d (.str s7), .d ((dO Dt.str) s11), .d (.lst (List.map Dt.str s22)), .un, .un]) rfl rfl <|
sm_bind fun o28 h_o28 =>
sm_bind fun t29 h_t29 =>
sm_bind fun t30 h_t30 =>
sm_own (es' := [.d (.lst (List.map (dL d_Stp) flows)), .d ((dT2 (dV (dT3 Dt.int Dt.str (dO Dt.str))) (dV Dt.str)) state), .d (.int arm), .d ((dO d_Stp) t1), .d (.int t2.1), .d (.str s7), .d ((dO Dt.str) s11), .own none (List.map Dt.str t30), .un, .un]) (el_fil (vs := [8]) (em := Dt.str) (em2 := Dt.str) (en2 := fun (name27 : Str) => [.d (.lst (List.map (dL d_Stp) flows)), .d ((dT2 (dV (dT3 Dt.int Dt.str (dO Dt.str))) (dV Dt.str)) state), .d (.int arm), .d ((dO d_Stp) t1), .d (.int t2.1), .d (.str s7), .d ((dO Dt.str) s11), .d (.lst (List.map Dt.str s22)), .d (.str name27), .un]) (ei_list (ev_var (i := 7) rfl)) (fun name27 => eg_name (vs := [8]) (by simp)) (fun name27 => cb_if (et_test (ev_neS (ev_var (i := 8) rfl) (ev_ixR (ev_some (em := d_Stp) h_o28 (ev_var (i := 3) rfl)) (ev_int) (d_Stp_at1S h_t29)))) (fun _ => ev_pure (ev_var (i := 8) rfl))) rfl h_t30) rfl <|
sm_nil <|
sm_some (sev_nx (wk_e <| wk_e <| wk_e <| wk_e <| wk_e <| wk_e <| wk_e <| wk_e <| wk_u <| wk_u <| wk_n))) (fun hb =>
sm_nil <|
sm_some (sev_nx (wk_e <| wk_e <| wk_e <| wk_e <| wk_e <| wk_e <| wk_e <| wk_e <| wk_u <| wk_u <| wk_n)))) fun s32 h_s32 =>
sm_as <|
sm_frz (i := 7) (es' := [.d (.lst (List.map (dL d_Stp) flows)), .d ((dT2 (dV (dT3 Dt.int Dt.str (dO Dt.str))) (dV Dt.str)) state), .d (.int arm), .d ((dO d_Stp) t1), .d (.int t2.1), .d (.str s7), .d ((dO Dt.str) s11), .d (.lst (List.map Dt.str s32)), .un, .un]) rfl rfl <|
sm_bind fun t33 h_t33 =>
sm_lt fun after34 h_after34 =>
sm_own (es' := [.d (.lst (List.map (dL d_Stp) flows)), .d ((dT2 (dV (dT3 Dt.int Dt.str (dO Dt.str))) (dV Dt.str)) state), .d (.int arm), .d ((dO d_Stp) t1), .d (.int t2.1), .d (.str s7), .d ((dO Dt.str) s11), .d (.lst (List.map Dt.str s32)), .un, .own none (List.map (dT2 (dV (dT3 Dt.int Dt.str (dO Dt.str))) (dV Dt.str)) after34)]) (el_is (el_lst (ds := List.map (dT2 (dV (dT3 Dt.int Dt.str (dO Dt.str))) (dV Dt.str)) [t33]) (ea_cons (ev_call (ea_cons (ev_var (i := 0) rfl) (ea_cons (ev_var (i := 1) rfl) (ea_cons (ev_var (i := 2) rfl) (ea_cons (ev_add (ev_var (i := 4) rfl) (ev_int)) (ea_cons (ev_var (i := 5) rfl) (ea_cons (ev_var (i := 6) rfl) (ea_cons (ev_var (i := 7) rfl) (ea_nil)))))))) ⟨flows, state, arm, t2.1 + 1, s7, s11, s32, t33, rfl, h_t33, rfl⟩) (ea_nil)) (by simp)) (congrArg (List.map (dT2 (dV (dT3 Dt.int Dt.str (dO Dt.str))) (dV Dt.str))) h_after34)) rfl <|
sm_as <|
sm_bind fun o35 h_o35 =>
sm_seq (env := fun (s : (List ((List (Int × Str × (Option Str))) × (List Str)))) => [.d (.lst (List.map (dL d_Stp) flows)), .d ((dT2 (dV (dT3 Dt.int Dt.str (dO Dt.str))) (dV Dt.str)) state), .d (.int arm), .d ((dO d_Stp) t1), .d (.int t2.1), .d (.str s7), .d ((dO Dt.str) s11), .d (.lst (List.map Dt.str s32)), .un, .own none (List.map (dT2 (dV (dT3 Dt.int Dt.str (dO Dt.str))) (dV Dt.str)) s)]) (sm_one <| sm_if (et_test (ev_eqS (ev_ixR (ev_some (em := d_Stp) h_o35 (ev_var (i := 3) rfl)) (ev_int) (d_Stp_word _)) (ev_str))) (fun hb =>
sm_as <|
sm_bind fun o36 h_o36 =>
sm_bind fun t37 h_t37 =>
sm_bind fun t38 h_t38 =>
sm_bind fun after39 h_after39 =>
sm_app (i := 9) (x := t38) (es' := [.d (.lst (List.map (dL d_Stp) flows)), .d ((dT2 (dV (dT3 Dt.int Dt.str (dO Dt.str))) (dV Dt.str)) state), .d (.int arm), .d ((dO d_Stp) t1), .d (.int t2.1), .d (.str s7), .d ((dO Dt.str) s11), .d (.lst (List.map Dt.str s32)), .un, .own none (List.map (dT2 (dV (dT3 Dt.int Dt.str (dO Dt.str))) (dV Dt.str)) after39)]) (em := (dT2 (dV (dT3 Dt.int Dt.str (dO Dt.str))) (dV Dt.str))) rfl (ev_call (ea_cons (ev_var (i := 0) rfl) (ea_cons (ev_var (i := 1) rfl) (ea_cons (ev_var (i := 2) rfl) (ea_cons (ev_ixR (ev_some (em := d_Stp) h_o36 (ev_var (i := 3) rfl)) (ev_int) (d_Stp_at2I h_t37)) (ea_cons (ev_var (i := 5) rfl) (ea_cons (ev_var (i := 6) rfl) (ea_cons (ev_var (i := 7) rfl) (ea_nil)))))))) ⟨flows, state, arm, t37, s7, s11, s32, t38, rfl, h_t38, rfl⟩) h_after39 rfl <|
sm_nil <|
sm_some (sev_nx (wk_e <| wk_e <| wk_e <| wk_e <| wk_e <| wk_e <| wk_e <| wk_e <| wk_u <| wk_e <| wk_n))) (fun hb =>
sm_nil <|
sm_some (sev_nx (wk_e <| wk_e <| wk_e <| wk_e <| wk_e <| wk_e <| wk_e <| wk_e <| wk_u <| wk_e <| wk_n)))) fun s40 h_s40 =>
sm_as <|
sm_frz (i := 9) (es' := [.d (.lst (List.map (dL d_Stp) flows)), .d ((dT2 (dV (dT3 Dt.int Dt.str (dO Dt.str))) (dV Dt.str)) state), .d (.int arm), .d ((dO d_Stp) t1), .d (.int t2.1), .d (.str s7), .d ((dO Dt.str) s11), .d (.lst (List.map Dt.str s32)), .un, .d (.lst (List.map (dT2 (dV (dT3 Dt.int Dt.str (dO Dt.str))) (dV Dt.str)) s40))]) rfl rfl <|
sm_some (sev_rt (ev_var (i := 9) rfl) (wk_uns rfl)))⟩
theorem sc__law_next : FnScope ["_law_digits_here", "_law_flows", "_law_blocked", "_law_state", "_law_first", "_law_k", "_law_arm", "_law_outcomes_here"] ["_law_digits_here", "_law_flows", "_law_blocked", "_law_state"] (defScope (topS 25)) := ⟨rfl, rfl, rfl, by decide +kernel, rfl, by decide +kernel, by decide +kernel⟩
theorem b__law_next (T : Top K mg A) : Binds K A.d__law_next ["_law_digits_here", "_law_flows", "_law_blocked", "_law_state"] [] := T.F__law_next.binds (ps := ["_law_digits_here", "_law_flows", "_law_blocked", "_law_state"]) fun _ _ _ _ _ _ us hl => match us, hl with | [_, _, _, _], _ => rfl
def P__law_next (A : Ads) (xs ds : List Dt) (d : Dt) (ys : List Dt) : Prop := ∃ (digits_here : (List Int)) (flows : (List (List Stp))) (blocked : (List (Int × Plc × Int × Plc))) (state : ((List (Int × Str × (Option Str))) × (List Str))) (r : ((Option ((List (Int × Str × (Option Str))) × (List Str))) × List Int)), xs = List.map Dt.int digits_here ∧ ds = [.lst (List.map (dL d_Stp) flows), .lst (List.map (dT4 Dt.int d_Plc Dt.int d_Plc) blocked), (dT2 (dV (dT3 Dt.int Dt.str (dO Dt.str))) (dV Dt.str)) state] ∧ m__law_next digits_here flows blocked state = some r ∧ d = (dO (dT2 (dV (dT3 Dt.int Dt.str (dO Dt.str))) (dV Dt.str))) r.1 ∧ ys = List.map Dt.int r.2
set_option maxHeartbeats 4000000 in
theorem ok__law_next (T : Top K mg A) : FnOk P A.w K mg base CX0 5 A.f__law_next A.d__law_next ["_law_digits_here", "_law_flows", "_law_blocked", "_law_state"] (FSpec K (RMu (P__law_next A))) :=
  fn_M T.F__law_next sc__law_next (fun xs ds d ys h => by obtain ⟨digits_here, flows, blocked, state, r, rfl, rfl, _⟩ := h; rfl) fun cdv A1 outer s H E hr => ⟨_, pss_cons (ps_set (i := 4) sc__law_next.nd rfl (by first | exact Or.inl rfl | exact Or.inr rfl) (pe_call (ok__law_digit T) (hr.mono (by decide)) (by rfl) T.g__law_digit T.F__law_digit.kp (b__law_digit T) .nil pass0 (pa_cons (pv 0) (pa_cons (pe_callB cr_lenS (by rfl) T.z_len bt_len (pa_cons (pv 1) (pa_nil))) (pa_nil)))))
 (pss_cons (ps_for PassesOwn.never rfl (pi_range1 (by rfl) T.z_range (pa_cons (pe_callB cr_lenS (by rfl) T.z_len bt_len (pa_cons (pv 1) (pa_nil))) (pa_nil))) (pg_name (i := 5) sc__law_next.nd rfl (by first | exact Or.inl rfl | exact Or.inr rfl)) (pss_cons (ps_set (i := 6) sc__law_next.nd rfl (by first | exact Or.inl rfl | exact Or.inr rfl) (pe_op op_mod (pe_callTy cr_int (by rfl) T.z_int bt_int (pa_cons (pe_op op_add (pv 4) (pv 5)) (pa_nil))) (pe_callB cr_lenS (by rfl) T.z_len bt_len (pa_cons (pv 1) (pa_nil)))))
 (pss_cons (ps_if (pt_val (pe_call (ok__law_can T) (hr.mono (by decide)) (by rfl) T.g__law_can T.F__law_can.kp (b__law_can T) .nil pass0 (pa_cons (pv 1) (pa_cons (pv 2) (pa_cons (pv 3) (pa_cons (pv 6) (pa_nil))))))) (pss_cons (ps_set (i := 7) sc__law_next.nd rfl (by first | exact Or.inl rfl | exact Or.inr rfl) (pe_call (ok__law_outcomes T) (hr.mono (by decide)) (by rfl) T.g__law_outcomes T.F__law_outcomes.kp (b__law_outcomes T) .nil pass0 (pa_cons (pv 1) (pa_cons (pv 3) (pa_cons (pv 6) (pa_nil))))))
 (pss_cons (ps_ret (pe_ix ix_list (pv 7) (pe_call (ok__law_digit T) (hr.mono (by decide)) (by rfl) T.g__law_digit T.F__law_digit.kp (b__law_digit T) .nil pass0 (pa_cons (pv 0) (pa_cons (pe_callB cr_lenS (by rfl) T.z_len bt_len (pa_cons (pv 7) (pa_nil))) (pa_nil)))) (fun _ _ => rfl)))
 (pss_nil))) (pss_nil))
 (pss_nil))))
 (pss_cons (ps_ret (pe_non))
 (pss_nil))), fun p xs ds d ys h => by
    obtain ⟨digits_here, flows, blocked, state, r, rfl, rfl, h, rfl, rfl⟩ := h
    unfold m__law_next at h
    refine ⟨_, List.replicate 7 .un, sm_run (es := [.own (some p) (List.map Dt.int digits_here), .d (.lst (List.map (dL d_Stp) flows)), .d (.lst (List.map (dT4 Dt.int d_Plc Dt.int d_Plc) blocked)), .d ((dT2 (dV (dT3 Dt.int Dt.str (dO Dt.str))) (dV Dt.str)) state), .un, .un, .un, .un]) (oc := fun (r : ((Option ((List (Int × Str × (Option Str))) × (List Str))) × List Int)) => .rt ((dO (dT2 (dV (dT3 Dt.int Dt.str (dO Dt.str))) (dV Dt.str))) r.1) (.own (some p) (List.map Dt.int r.2) :: List.replicate 7 .un)) h ?_, .inl rfl⟩
    exact sm_one <|
sm_as <|
sm_bind fun t1 h_t1 =>
sm_setM (es' := [.own (some p) (List.map Dt.int t1.2), .d (.lst (List.map (dL d_Stp) flows)), .d (.lst (List.map (dT4 Dt.int d_Plc Dt.int d_Plc) blocked)), .d ((dT2 (dV (dT3 Dt.int Dt.str (dO Dt.str))) (dV Dt.str)) state), .d (.int t1.1), .un, .un, .un]) (evm_callM (P := P__law_digit A) (i := 0) rfl (eam_cons (evm_of (ev_lenLm (ev_var (i := 1) rfl))) (eam_nil)) rfl ⟨digits_here, (flows.length : Int), t1, rfl, rfl, h_t1, rfl, rfl⟩ (es' := [.own (some p) (List.map Dt.int t1.2), .d (.lst (List.map (dL d_Stp) flows)), .d (.lst (List.map (dT4 Dt.int d_Plc Dt.int d_Plc) blocked)), .d ((dT2 (dV (dT3 Dt.int Dt.str (dO Dt.str))) (dV Dt.str)) state), .un, .un, .un, .un]) rfl) rfl <|
sm_as <|
sm_bind fun r2 h_r2 =>
sm_thenF (env := fun (s : (List Int)) => [.own (some p) (List.map Dt.int s), .d (.lst (List.map (dL d_Stp) flows)), .d (.lst (List.map (dT4 Dt.int d_Plc Dt.int d_Plc) blocked)), .d ((dT2 (dV (dT3 Dt.int Dt.str (dO Dt.str))) (dV Dt.str)) state), .d (.int t1.1), .un, .un, .un]) (ed := fun r => (dO (dT2 (dV (dT3 Dt.int Dt.str (dO Dt.str))) (dV Dt.str))) r.1) (ee := fun r => .own (some p) (List.map Dt.int r.2) :: List.replicate 7 .un) (sm_for (xs := r2) (em := Dt.int) (env := fun (s : (List Int)) => [.own (some p) (List.map Dt.int s), .d (.lst (List.map (dL d_Stp) flows)), .d (.lst (List.map (dT4 Dt.int d_Plc Dt.int d_Plc) blocked)), .d ((dT2 (dV (dT3 Dt.int Dt.str (dO Dt.str))) (dV Dt.str)) state), .d (.int t1.1), .un, .un, .un]) (en2 := fun (k4 : Int) (s3 : (List Int)) => [.own (some p) (List.map Dt.int s3), .d (.lst (List.map (dL d_Stp) flows)), .d (.lst (List.map (dT4 Dt.int d_Plc Dt.int d_Plc) blocked)), .d ((dT2 (dV (dT3 Dt.int Dt.str (dO Dt.str))) (dV Dt.str)) state), .d (.int t1.1), .d (.int k4), .un, .un]) (ei_rng1 (ea_cons (ev_lenLm (ev_var (i := 1) rfl)) (ea_nil)) h_r2) (wk_e <| wk_e <| wk_e <| wk_e <| wk_e <| wk_u <| wk_u <| wk_u <| wk_n) (fun k4 s3 => eg_name (vs := [5]) (by simp)) fun k4 s3 h_k4 => sm_one <|
sm_as <|
sm_bind fun t5 h_t5 =>
sm_set (es' := [.own (some p) (List.map Dt.int s3), .d (.lst (List.map (dL d_Stp) flows)), .d (.lst (List.map (dT4 Dt.int d_Plc Dt.int d_Plc) blocked)), .d ((dT2 (dV (dT3 Dt.int Dt.str (dO Dt.str))) (dV Dt.str)) state), .d (.int t1.1), .d (.int k4), .d (.int t5), .un]) (ev_mod (ev_intI (ev_add (ev_var (i := 4) rfl) (ev_var (i := 5) rfl))) (ev_lenLm (ev_var (i := 1) rfl)) h_t5) rfl <|
sm_as <|
sm_bind fun t6 h_t6 =>
sm_if (et_B (ev_call (ea_cons (ev_var (i := 1) rfl) (ea_cons (ev_var (i := 2) rfl) (ea_cons (ev_var (i := 3) rfl) (ea_cons (ev_var (i := 6) rfl) (ea_nil))))) ⟨flows, blocked, state, t5, t6, rfl, h_t6, rfl⟩)) (fun hb =>
sm_as <|
sm_bind fun t7 h_t7 =>
sm_set (es' := [.own (some p) (List.map Dt.int s3), .d (.lst (List.map (dL d_Stp) flows)), .d (.lst (List.map (dT4 Dt.int d_Plc Dt.int d_Plc) blocked)), .d ((dT2 (dV (dT3 Dt.int Dt.str (dO Dt.str))) (dV Dt.str)) state), .d (.int t1.1), .d (.int k4), .d (.int t5), .d (.lst (List.map (dT2 (dV (dT3 Dt.int Dt.str (dO Dt.str))) (dV Dt.str)) t7))]) (ev_call (ea_cons (ev_var (i := 1) rfl) (ea_cons (ev_var (i := 3) rfl) (ea_cons (ev_var (i := 6) rfl) (ea_nil)))) ⟨flows, state, t5, t7, rfl, h_t7, rfl⟩) rfl <|
sm_as <|
sm_bind fun t8 h_t8 =>
sm_bind fun t9 h_t9 =>
sm_some (sev_rtM (evm_op (evm_of (ev_var (i := 7) rfl)) (evm_callM (P := P__law_digit A) (i := 0) rfl (eam_cons (evm_of (ev_lenLm (ev_var (i := 7) rfl))) (eam_nil)) rfl ⟨s3, (t7.length : Int), t8, rfl, rfl, h_t8, rfl, rfl⟩ (es' := [.own (some p) (List.map Dt.int t8.2), .d (.lst (List.map (dL d_Stp) flows)), .d (.lst (List.map (dT4 Dt.int d_Plc Dt.int d_Plc) blocked)), .d ((dT2 (dV (dT3 Dt.int Dt.str (dO Dt.str))) (dV Dt.str)) state), .d (.int t1.1), .d (.int k4), .d (.int t5), .d (.lst (List.map (dT2 (dV (dT3 Dt.int Dt.str (dO Dt.str))) (dV Dt.str)) t7))]) rfl) (r2_of (ev_ixLC (em := (dT2 (dV (dT3 Dt.int Dt.str (dO Dt.str))) (dV Dt.str))) (ev_var (i := 0) rfl) (ev_var (i := 1) rfl) h_t9))) (wk_e <| wk_u <| wk_u <| wk_u <| wk_u <| wk_u <| wk_u <| wk_u <| wk_n))) (fun hb =>
sm_nil <|
sm_nil <|
sm_some (sev_go (wk_e <| wk_e <| wk_e <| wk_e <| wk_e <| wk_u <| wk_u <| wk_u <| wk_n)))) (fun s10 =>
sm_as <|
sm_some (sev_rt (ev_non) (wk_e <| wk_u <| wk_u <| wk_u <| wk_u <| wk_u <| wk_u <| wk_u <| wk_n))) (fun _ => rfl)⟩
theorem sc_law : FnScope ["_law_script", "_law_digits_here", "_law_flows", "_law_starts", "_law_blocked", "_law_plan_here", "_law_state", "_law_k", "_law_actual", "_law_ring", "_law_index", "_law_after"] ["_law_script"] (defScope (topS 26)) := ⟨rfl, rfl, rfl, by decide +kernel, rfl, by decide +kernel, by decide +kernel⟩
theorem b_law (T : Top K mg A) : Binds K A.d_law ["_law_script"] [] := T.F_law.binds (ps := ["_law_script"]) fun _ _ _ _ _ _ us hl => match us, hl with | [_], _ => rfl
def P_law (A : Ads) (ds : List Dt) (d : Dt) : Prop := ∃ (script : (List Int)) (r : Bool), ds = [.lst (List.map Dt.int script)] ∧ m_law script = some r ∧ d = .bl r
set_option maxHeartbeats 4000000 in
theorem ok_law (T : Top K mg A) : FnOk P A.w K mg base CX0 7 A.f_law A.d_law ["_law_script"] (FSpec K (RD (P_law A))) :=
  fn_D T.F_law sc_law (fun ds d h => by obtain ⟨script, r, rfl, _, _⟩ := h; rfl) fun cdv A1 outer s H E hr => ⟨_, pss_cons (ps_set (i := 1) sc_law.nd rfl (by first | exact Or.inl rfl | exact Or.inr rfl) (pe_call (ok__law_digits T) (hr.mono (by decide)) (by rfl) T.g__law_digits T.F__law_digits.kp (b__law_digits T) .nil pass0 (pa_cons (pv 0) (pa_cons (pe_int) (pa_cons (pe_int) (pa_nil))))))
 (pss_cons (ps_asg (pe_call (ok__law_plan T) (hr.mono (by decide)) (by rfl) T.g__law_plan T.F__law_plan.kp (b__law_plan T) .nil pass0 (pa_cons (pv 1) (pa_nil))) (pg_tup rfl (pgs_cons (pg_name (i := 2) sc_law.nd rfl (by first | exact Or.inl rfl | exact Or.inr rfl)) (pgs_cons (pg_name (i := 3) sc_law.nd rfl (by first | exact Or.inl rfl | exact Or.inr rfl)) (pgs_cons (pg_name (i := 4) sc_law.nd rfl (by first | exact Or.inl rfl | exact Or.inr rfl)) (pgs_nil))))))
 (pss_cons (ps_set (i := 4) sc_law.nd rfl (by first | exact Or.inl rfl | exact Or.inr rfl) (pe_op op_catG (pv 4) (pe_call (ok__law_more T) (hr.mono (by decide)) (by rfl) T.g__law_more T.F__law_more.kp (b__law_more T) .nil pass0 (pa_cons (pv 1) (pa_cons (pe_callB cr_lenS (by rfl) T.z_len bt_len (pa_cons (pv 2) (pa_nil))) (pa_nil))))))
 (pss_cons (ps_set (i := 5) sc_law.nd rfl (by first | exact Or.inl rfl | exact Or.inr rfl) (pe_makeK T.mk_Plan (ok_Plan_init T) (hr.mono (by decide)) (by rfl) T.gc_Plan (kb_Plan_init_blocked T).choose_spec pass0 (pa_cons (pv 2) (pa_cons (pv 3) (pa_nil))) (pk_cons (pv 4) (pk_nil))))
 (pss_cons (ps_set (i := 6) sc_law.nd rfl (by first | exact Or.inl rfl | exact Or.inr rfl) (pe_call (ok__law_start T) (hr.mono (by decide)) (by rfl) T.g__law_start T.F__law_start.kp (b__law_start T) .nil pass0 (pa_cons (pv 2) (pa_cons (pv 3) (pa_nil)))))
 (pss_cons (ps_for PassesOwn.never rfl (pi_range1 (by rfl) T.z_range (pa_cons (pe_int) (pa_nil))) (pg_name (i := 7) sc_law.nd rfl (by first | exact Or.inl rfl | exact Or.inr rfl)) (pss_cons (ps_set (i := 8) sc_law.nd rfl (by first | exact Or.inl rfl | exact Or.inr rfl) (pe_call (ok_what_holds_up T) (hr.mono (by decide)) (by rfl) T.g_what_holds_up T.F_what_holds_up.kp (b_what_holds_up T) .nil pass0 (pa_cons (pv 5) (pa_cons (pv 6) (pa_nil)))))
 (pss_cons (ps_if (pt_cmpR (op_neD hr.units) (pv 8) (pe_call (ok__law_holds T) (hr.mono (by decide)) (by rfl) T.g__law_holds T.F__law_holds.kp (b__law_holds T) .nil pass0 (pa_cons (pv 2) (pa_cons (pv 4) (pa_cons (pv 6) (pa_nil))))) (nomark _)) (pss_cons (ps_ret (pe_bl))
 (pss_nil)) (pss_nil))
 (pss_cons (ps_if (PW.pt (pw_and (pt_cmpR op_notN1 (pv 8) (pe_non) (nomark _)) (pw_and1 (pt_cmpR op_eq (pe_ix ix_tup (pv 8) (pe_int) (fun _ _ => rfl)) (pe_str) (nomark _))))) (pss_cons (ps_set (i := 9) sc_law.nd rfl (by first | exact Or.inl rfl | exact Or.inr rfl) (pe_ix ix_tup (pv 8) (pe_int) (fun _ _ => rfl)))
 (pss_cons (ps_for PassesOwn.never rfl (pi_range1 (by rfl) T.z_range (pa_cons (pe_callB cr_lenS (by rfl) T.z_len bt_len (pa_cons (pv 9) (pa_nil))) (pa_nil))) (pg_name (i := 10) sc_law.nd rfl (by first | exact Or.inl rfl | exact Or.inr rfl)) (pss_cons (ps_set (i := 11) sc_law.nd rfl (by first | exact Or.inl rfl | exact Or.inr rfl) (pe_ix ix_list (pv 9) (pe_op op_mod (pe_callTy cr_int (by rfl) T.z_int bt_int (pa_cons (pe_op op_add (pv 10) (pe_int)) (pa_nil))) (pe_callB cr_lenS (by rfl) T.z_len bt_len (pa_cons (pv 9) (pa_nil)))) (fun _ _ => rfl)))
 (pss_cons (ps_if (PW.pt (pw_or (pt_cmpR op_ne (pe_call (ok__law_hinders T) (hr.mono (by decide)) (by rfl) T.g__law_hinders T.F__law_hinders.kp (b__law_hinders T) .nil pass0 (pa_cons (pv 2) (pa_cons (pv 4) (pa_cons (pv 6) (pa_cons (pe_ix ix_list (pv 9) (pv 10) (fun _ _ => rfl)) (pa_nil)))))) (pv 11) (nomark _)) (pw_or1 (pt_cmpR op_ne (pe_bm PySem.F.plainAttrs_list PySem.F.slot_list_index PySem.F.type_list_index mt_index (pv 9) (pa_cons (pv 11) pa_nil)) (pe_op op_mod (pe_callTy cr_int (by rfl) T.z_int bt_int (pa_cons (pe_op op_add (pv 10) (pe_int)) (pa_nil))) (pe_callB cr_lenS (by rfl) T.z_len bt_len (pa_cons (pv 9) (pa_nil)))) (nomark _))))) (pss_cons (ps_ret (pe_bl))
 (pss_nil)) (pss_nil))
 (pss_nil))))
 (pss_nil))) (pss_nil))
 (pss_cons (ps_set (i := 6) sc_law.nd rfl (by first | exact Or.inl rfl | exact Or.inr rfl) (pe_call (ok__law_next T) (hr.mono (by decide)) (by rfl) T.g__law_next T.F__law_next.kp (b__law_next T) .nil pass0 (pa_cons (pv 1) (pa_cons (pv 2) (pa_cons (pv 4) (pa_cons (pv 6) (pa_nil)))))))
 (pss_cons (ps_if (pt_cmpR op_isN1 (pv 6) (pe_non) (nomark _)) (pss_cons (ps_ret (pe_bl))
 (pss_nil)) (pss_nil))
 (pss_nil)))))))
 (pss_cons (ps_ret (pe_bl))
 (pss_nil))))))), fun ds d h => by
    obtain ⟨script, r, rfl, h, rfl⟩ := h
    unfold m_law at h
    refine ⟨_, List.replicate 12 .un, sm_run (es := [.d (.lst (List.map Dt.int script)), .un, .un, .un, .un, .un, .un, .un, .un, .un, .un, .un]) (oc := fun (r : Bool) => .rt (.bl r) (List.replicate 12 .un)) h ?_, .inl rfl⟩
    exact sm_one <|
sm_as <|
sm_bind fun t1 h_t1 =>
sm_own (es' := [.d (.lst (List.map Dt.int script)), .own none (List.map Dt.int t1), .un, .un, .un, .un, .un, .un, .un, .un, .un, .un]) (el_call (ea_cons (ev_var (i := 0) rfl) (ea_cons (ev_int) (ea_cons (ev_int) (ea_nil)))) ⟨script, 0, 16, t1, rfl, h_t1, rfl⟩) rfl <|
sm_as <|
sm_bind fun t3 h_t3 =>
sm_asgGM (es' := [.d (.lst (List.map Dt.int script)), .own none (List.map Dt.int t3.2), .d (.lst (List.map (dL d_Stp) t3.1.1)), .d (.lst (List.map Dt.str t3.1.2.1)), .d (.lst (List.map (dT4 Dt.int d_Plc Dt.int d_Plc) t3.1.2.2)), .un, .un, .un, .un, .un, .un, .un]) (evm_callM (P := P__law_plan A) (i := 1) rfl (eam_nil) rfl ⟨t1, t3, rfl, rfl, h_t3, rfl, rfl⟩ (es' := [.d (.lst (List.map Dt.int script)), .own none (List.map Dt.int t3.2), .un, .un, .un, .un, .un, .un, .un, .un, .un, .un]) rfl) (eg_tup (egs_cons (eg_name (vs := [2, 3, 4]) (by simp)) (egs_cons (eg_name (vs := [2, 3, 4]) (by simp)) (egs_cons (eg_name (vs := [2, 3, 4]) (by simp)) (egs_nil)))) rfl) <|
sm_as <|
sm_bind fun t4 h_t4 =>
sm_bind fun t5 h_t5 =>
sm_setM (es' := [.d (.lst (List.map Dt.int script)), .own none (List.map Dt.int t4.2), .d (.lst (List.map (dL d_Stp) t3.1.1)), .d (.lst (List.map Dt.str t3.1.2.1)), .d (.lst (List.map (dT4 Dt.int d_Plc Dt.int d_Plc) t5)), .un, .un, .un, .un, .un, .un, .un]) (evm_op (evm_of (ev_var (i := 4) rfl)) (evm_callM (P := P__law_more A) (i := 1) rfl (eam_cons (evm_of (ev_lenLm (ev_var (i := 2) rfl))) (eam_nil)) rfl ⟨t3.2, (t3.1.1.length : Int), t4, rfl, rfl, h_t4, rfl, rfl⟩ (es' := [.d (.lst (List.map Dt.int script)), .own none (List.map Dt.int t4.2), .d (.lst (List.map (dL d_Stp) t3.1.1)), .d (.lst (List.map Dt.str t3.1.2.1)), .d (.lst (List.map (dT4 Dt.int d_Plc Dt.int d_Plc) t3.1.2.2)), .un, .un, .un, .un, .un, .un, .un]) rfl) (r2_of (ev_new (el_cat (em := (dT4 Dt.int d_Plc Dt.int d_Plc)) (xs := t3.1.2.2) (ys := t4.1) (ev_var (i := 0) rfl) (ev_var (i := 1) rfl) h_t5)))) rfl <|
sm_as <|
sm_bind fun t6 h_t6 =>
sm_set (es' := [.d (.lst (List.map Dt.int script)), .own none (List.map Dt.int t4.2), .d (.lst (List.map (dL d_Stp) t3.1.1)), .d (.lst (List.map Dt.str t3.1.2.1)), .d (.lst (List.map (dT4 Dt.int d_Plc Dt.int d_Plc) t5)), .d ((d_Plan A) t6), .un, .un, .un, .un, .un, .un]) (ev_makeK (n := 2) (m := 1) (fV := fun vs zs => vs ++ (zs.drop 0).take 1) (ds' := [.lst (List.map (dL d_Stp) t3.1.1), .lst (List.map Dt.str t3.1.2.1), .lst (List.map (dT4 Dt.int d_Plc Dt.int d_Plc) t5)]) (ea_cons (ev_var (i := 2) rfl) (ea_cons (ev_var (i := 3) rfl) (ea_nil))) (ea_cons (ev_var (i := 4) rfl) (ea_nil)) rfl rfl (fun _ _ _ _ _ => rfl) (fun G vs zs r1 r2 => (r1.append ((r2.drop 0).take 1))) ⟨t3.1.1, t3.1.2.1, t5, t6, rfl, h_t6, rfl⟩) rfl <|
sm_as <|
sm_bind fun t7 h_t7 =>
sm_lt fun state8 h_state8 =>
sm_set (es' := [.d (.lst (List.map Dt.int script)), .own none (List.map Dt.int t4.2), .d (.lst (List.map (dL d_Stp) t3.1.1)), .d (.lst (List.map Dt.str t3.1.2.1)), .d (.lst (List.map (dT4 Dt.int d_Plc Dt.int d_Plc) t5)), .d ((d_Plan A) t6), .d ((dO (dT2 (dV (dT3 Dt.int Dt.str (dO Dt.str))) (dV Dt.str))) state8), .un, .un, .un, .un, .un]) (ev_is (ev_call (ea_cons (ev_var (i := 2) rfl) (ea_cons (ev_var (i := 3) rfl) (ea_nil))) ⟨t3.1.1, t3.1.2.1, t7, rfl, h_t7, rfl⟩) (congrArg (dO (dT2 (dV (dT3 Dt.int Dt.str (dO Dt.str))) (dV Dt.str))) h_state8)) rfl <|
sm_as <|
sm_thenF (env := fun (s : (Option ((List (Int × Str × (Option Str))) × (List Str))) × (List Int)) => [.d (.lst (List.map Dt.int script)), .own none (List.map Dt.int s.2), .d (.lst (List.map (dL d_Stp) t3.1.1)), .d (.lst (List.map Dt.str t3.1.2.1)), .d (.lst (List.map (dT4 Dt.int d_Plc Dt.int d_Plc) t5)), .d ((d_Plan A) t6), .d ((dO (dT2 (dV (dT3 Dt.int Dt.str (dO Dt.str))) (dV Dt.str))) s.1), .un, .un, .un, .un, .un]) (ed := fun r => .bl r) (ee := fun _ => List.replicate 12 .un) (sm_for (xs := rng 0 20) (em := Dt.int) (env := fun (s : (Option ((List (Int × Str × (Option Str))) × (List Str))) × (List Int)) => [.d (.lst (List.map Dt.int script)), .own none (List.map Dt.int s.2), .d (.lst (List.map (dL d_Stp) t3.1.1)), .d (.lst (List.map Dt.str t3.1.2.1)), .d (.lst (List.map (dT4 Dt.int d_Plc Dt.int d_Plc) t5)), .d ((d_Plan A) t6), .d ((dO (dT2 (dV (dT3 Dt.int Dt.str (dO Dt.str))) (dV Dt.str))) s.1), .un, .un, .un, .un, .un]) (en2 := fun (k10 : Int) (s9 : (Option ((List (Int × Str × (Option Str))) × (List Str))) × (List Int)) => [.d (.lst (List.map Dt.int script)), .own none (List.map Dt.int s9.2), .d (.lst (List.map (dL d_Stp) t3.1.1)), .d (.lst (List.map Dt.str t3.1.2.1)), .d (.lst (List.map (dT4 Dt.int d_Plc Dt.int d_Plc) t5)), .d ((d_Plan A) t6), .d ((dO (dT2 (dV (dT3 Dt.int Dt.str (dO Dt.str))) (dV Dt.str))) s9.1), .d (.int k10), .un, .un, .un, .un]) (ei_rng1 (ea_cons (ev_int) (ea_nil)) (rngC_of (by decide))) (wk_e <| wk_e <| wk_e <| wk_e <| wk_e <| wk_e <| wk_e <| wk_u <| wk_u <| wk_u <| wk_u <| wk_u <| wk_n) (fun k10 s9 => eg_name (vs := [7]) (by simp)) fun k10 s9 h_k10 => sm_one <|
sm_as <|
sm_bind fun o11 h_o11 =>
sm_bind fun t12 h_t12 =>
sm_set (es' := [.d (.lst (List.map Dt.int script)), .own none (List.map Dt.int s9.2), .d (.lst (List.map (dL d_Stp) t3.1.1)), .d (.lst (List.map Dt.str t3.1.2.1)), .d (.lst (List.map (dT4 Dt.int d_Plc Dt.int d_Plc) t5)), .d ((d_Plan A) t6), .d ((dO (dT2 (dV (dT3 Dt.int Dt.str (dO Dt.str))) (dV Dt.str))) s9.1), .d (.int k10), .d ((dO d_Hld) t12), .un, .un, .un]) (ev_call (ea_cons (ev_var (i := 5) rfl) (ea_cons (ev_some (em := (dT2 (dV (dT3 Dt.int Dt.str (dO Dt.str))) (dV Dt.str))) h_o11 (ev_var (i := 6) rfl)) (ea_nil))) ⟨t6, o11, t12, rfl, h_t12, rfl⟩) rfl <|
sm_as <|
sm_bind fun o13 h_o13 =>
sm_bind fun t14 h_t14 =>
sm_bind fun t15 h_t15 =>
sm_if (et_test (ev_neDC (ev_var (i := 8) rfl) (ev_call (ea_cons (ev_var (i := 2) rfl) (ea_cons (ev_var (i := 4) rfl) (ea_cons (ev_some (em := (dT2 (dV (dT3 Dt.int Dt.str (dO Dt.str))) (dV Dt.str))) h_o13 (ev_var (i := 6) rfl)) (ea_nil)))) ⟨t3.1.1, t5, o13, t14, rfl, h_t14, rfl⟩) h_t15)) (fun hb =>
sm_as <|
sm_some (sev_rt (ev_bl) (wk_uns rfl))) (fun hb =>
sm_nil <|
sm_as <|
sm_bind fun b17 h_b17 =>
sm_if (et_andC (et_test (ev_nisO (em := d_Hld) (fun x h => by cases x <;> cases h) (ev_var (i := 8) rfl))) (fun _ => et_bnd fun o16 h_o16 => et_pure (et_test (ev_eqS (ev_ixR (ev_some (em := d_Hld) h_o16 (ev_var (i := 8) rfl)) (ev_int) (d_Hld_word _)) (ev_str)))) h_b17) (fun hb =>
sm_as <|
sm_bind fun o18 h_o18 =>
sm_bind fun t19 h_t19 =>
sm_set (es' := [.d (.lst (List.map Dt.int script)), .own none (List.map Dt.int s9.2), .d (.lst (List.map (dL d_Stp) t3.1.1)), .d (.lst (List.map Dt.str t3.1.2.1)), .d (.lst (List.map (dT4 Dt.int d_Plc Dt.int d_Plc) t5)), .d ((d_Plan A) t6), .d ((dO (dT2 (dV (dT3 Dt.int Dt.str (dO Dt.str))) (dV Dt.str))) s9.1), .d (.int k10), .d ((dO d_Hld) t12), .d (.lst (List.map Dt.int t19)), .un, .un]) (ev_ixR (ev_some (em := d_Hld) h_o18 (ev_var (i := 8) rfl)) (ev_int) (d_Hld_at1L h_t19)) rfl <|
sm_as <|
sm_bind fun r20 h_r20 =>
sm_thenF (env := fun (s : Unit) => [.d (.lst (List.map Dt.int script)), .own none (List.map Dt.int s9.2), .d (.lst (List.map (dL d_Stp) t3.1.1)), .d (.lst (List.map Dt.str t3.1.2.1)), .d (.lst (List.map (dT4 Dt.int d_Plc Dt.int d_Plc) t5)), .d ((d_Plan A) t6), .d ((dO (dT2 (dV (dT3 Dt.int Dt.str (dO Dt.str))) (dV Dt.str))) s9.1), .d (.int k10), .d ((dO d_Hld) t12), .d (.lst (List.map Dt.int t19)), .un, .un]) (ed := fun r => .bl r) (ee := fun _ => List.replicate 12 .un) (sm_for (xs := r20) (em := Dt.int) (env := fun (s : Unit) => [.d (.lst (List.map Dt.int script)), .own none (List.map Dt.int s9.2), .d (.lst (List.map (dL d_Stp) t3.1.1)), .d (.lst (List.map Dt.str t3.1.2.1)), .d (.lst (List.map (dT4 Dt.int d_Plc Dt.int d_Plc) t5)), .d ((d_Plan A) t6), .d ((dO (dT2 (dV (dT3 Dt.int Dt.str (dO Dt.str))) (dV Dt.str))) s9.1), .d (.int k10), .d ((dO d_Hld) t12), .d (.lst (List.map Dt.int t19)), .un, .un]) (en2 := fun (index22 : Int) (s21 : Unit) => [.d (.lst (List.map Dt.int script)), .own none (List.map Dt.int s9.2), .d (.lst (List.map (dL d_Stp) t3.1.1)), .d (.lst (List.map Dt.str t3.1.2.1)), .d (.lst (List.map (dT4 Dt.int d_Plc Dt.int d_Plc) t5)), .d ((d_Plan A) t6), .d ((dO (dT2 (dV (dT3 Dt.int Dt.str (dO Dt.str))) (dV Dt.str))) s9.1), .d (.int k10), .d ((dO d_Hld) t12), .d (.lst (List.map Dt.int t19)), .d (.int index22), .un]) (ei_rng1 (ea_cons (ev_lenLm (ev_var (i := 9) rfl)) (ea_nil)) h_r20) (wk_e <| wk_e <| wk_e <| wk_e <| wk_e <| wk_e <| wk_e <| wk_e <| wk_e <| wk_e <| wk_u <| wk_u <| wk_n) (fun index22 s21 => eg_name (vs := [10]) (by simp)) fun index22 s21 h_index22 => sm_one <|
sm_as <|
sm_bind fun t23 h_t23 =>
sm_bind fun t24 h_t24 =>
sm_set (es' := [.d (.lst (List.map Dt.int script)), .own none (List.map Dt.int s9.2), .d (.lst (List.map (dL d_Stp) t3.1.1)), .d (.lst (List.map Dt.str t3.1.2.1)), .d (.lst (List.map (dT4 Dt.int d_Plc Dt.int d_Plc) t5)), .d ((d_Plan A) t6), .d ((dO (dT2 (dV (dT3 Dt.int Dt.str (dO Dt.str))) (dV Dt.str))) s9.1), .d (.int k10), .d ((dO d_Hld) t12), .d (.lst (List.map Dt.int t19)), .d (.int index22), .d (.int t24)]) (ev_ixLC (em := Dt.int) (ev_var (i := 9) rfl) (ev_mod (ev_intI (ev_add (ev_var (i := 10) rfl) (ev_int))) (ev_lenLm (ev_var (i := 9) rfl)) h_t23) h_t24) rfl <|
sm_as <|
sm_bind fun t25 h_t25 =>
sm_bind fun o26 h_o26 =>
sm_bind fun t27 h_t27 =>
sm_bind fun b30 h_b30 =>
sm_if (et_orC (et_test (ev_neOI (ev_call (ea_cons (ev_var (i := 2) rfl) (ea_cons (ev_var (i := 4) rfl) (ea_cons (ev_some (em := (dT2 (dV (dT3 Dt.int Dt.str (dO Dt.str))) (dV Dt.str))) h_o26 (ev_var (i := 6) rfl)) (ea_cons (ev_ixLC (em := Dt.int) (ev_var (i := 9) rfl) (ev_var (i := 10) rfl) h_t25) (ea_nil))))) ⟨t3.1.1, t5, o26, t25, t27, rfl, h_t27, rfl⟩) (ev_var (i := 11) rfl))) (fun _ => et_bnd fun t28 h_t28 => et_bnd fun t29 h_t29 => et_pure (et_test (ev_neI (ev_lIdx (ev_var (i := 9) rfl) (ev_var (i := 11) rfl) h_t28) (ev_mod (ev_intI (ev_add (ev_var (i := 10) rfl) (ev_int))) (ev_lenLm (ev_var (i := 9) rfl)) h_t29)))) h_b30) (fun hb =>
sm_as <|
sm_some (sev_rt (ev_bl) (wk_uns rfl))) (fun hb =>
sm_nil <|
sm_nil <|
sm_some (sev_go (wk_e <| wk_e <| wk_e <| wk_e <| wk_e <| wk_e <| wk_e <| wk_e <| wk_e <| wk_e <| wk_u <| wk_u <| wk_n)))) (fun s31 =>
sm_nil <|
sm_as <|
sm_bind fun o32 h_o32 =>
sm_bind fun t33 h_t33 =>
sm_setM (es' := [.d (.lst (List.map Dt.int script)), .own none (List.map Dt.int t33.2), .d (.lst (List.map (dL d_Stp) t3.1.1)), .d (.lst (List.map Dt.str t3.1.2.1)), .d (.lst (List.map (dT4 Dt.int d_Plc Dt.int d_Plc) t5)), .d ((d_Plan A) t6), .d ((dO (dT2 (dV (dT3 Dt.int Dt.str (dO Dt.str))) (dV Dt.str))) t33.1), .d (.int k10), .d ((dO d_Hld) t12), .d (.lst (List.map Dt.int t19)), .un, .un]) (evm_callM (P := P__law_next A) (i := 1) rfl (eam_cons (evm_of (ev_var (i := 2) rfl)) (eam_cons (evm_of (ev_var (i := 4) rfl)) (eam_cons (evm_of (ev_some (em := (dT2 (dV (dT3 Dt.int Dt.str (dO Dt.str))) (dV Dt.str))) h_o32 (ev_var (i := 6) rfl))) (eam_nil)))) rfl ⟨s9.2, t3.1.1, t5, o32, t33, rfl, rfl, h_t33, rfl, rfl⟩ (es' := [.d (.lst (List.map Dt.int script)), .own none (List.map Dt.int t33.2), .d (.lst (List.map (dL d_Stp) t3.1.1)), .d (.lst (List.map Dt.str t3.1.2.1)), .d (.lst (List.map (dT4 Dt.int d_Plc Dt.int d_Plc) t5)), .d ((d_Plan A) t6), .d ((dO (dT2 (dV (dT3 Dt.int Dt.str (dO Dt.str))) (dV Dt.str))) s9.1), .d (.int k10), .d ((dO d_Hld) t12), .d (.lst (List.map Dt.int t19)), .un, .un]) rfl) rfl <|
sm_as <|
sm_if (et_test (ev_isO (em := (dT2 (dV (dT3 Dt.int Dt.str (dO Dt.str))) (dV Dt.str))) (fun _ h => nomatch h) (ev_var (i := 6) rfl))) (fun hb =>
sm_as <|
sm_some (sev_rt (ev_bl) (wk_uns rfl))) (fun hb =>
sm_nil <|
sm_nil <|
sm_some (sev_go (wk_e <| wk_e <| wk_e <| wk_e <| wk_e <| wk_e <| wk_e <| wk_u <| wk_u <| wk_u <| wk_u <| wk_u <| wk_n)))) (fun _ => rfl)) (fun hb =>
sm_nil <|
sm_as <|
sm_bind fun o34 h_o34 =>
sm_bind fun t35 h_t35 =>
sm_setM (es' := [.d (.lst (List.map Dt.int script)), .own none (List.map Dt.int t35.2), .d (.lst (List.map (dL d_Stp) t3.1.1)), .d (.lst (List.map Dt.str t3.1.2.1)), .d (.lst (List.map (dT4 Dt.int d_Plc Dt.int d_Plc) t5)), .d ((d_Plan A) t6), .d ((dO (dT2 (dV (dT3 Dt.int Dt.str (dO Dt.str))) (dV Dt.str))) t35.1), .d (.int k10), .d ((dO d_Hld) t12), .un, .un, .un]) (evm_callM (P := P__law_next A) (i := 1) rfl (eam_cons (evm_of (ev_var (i := 2) rfl)) (eam_cons (evm_of (ev_var (i := 4) rfl)) (eam_cons (evm_of (ev_some (em := (dT2 (dV (dT3 Dt.int Dt.str (dO Dt.str))) (dV Dt.str))) h_o34 (ev_var (i := 6) rfl))) (eam_nil)))) rfl ⟨s9.2, t3.1.1, t5, o34, t35, rfl, rfl, h_t35, rfl, rfl⟩ (es' := [.d (.lst (List.map Dt.int script)), .own none (List.map Dt.int t35.2), .d (.lst (List.map (dL d_Stp) t3.1.1)), .d (.lst (List.map Dt.str t3.1.2.1)), .d (.lst (List.map (dT4 Dt.int d_Plc Dt.int d_Plc) t5)), .d ((d_Plan A) t6), .d ((dO (dT2 (dV (dT3 Dt.int Dt.str (dO Dt.str))) (dV Dt.str))) s9.1), .d (.int k10), .d ((dO d_Hld) t12), .un, .un, .un]) rfl) rfl <|
sm_as <|
sm_if (et_test (ev_isO (em := (dT2 (dV (dT3 Dt.int Dt.str (dO Dt.str))) (dV Dt.str))) (fun _ h => nomatch h) (ev_var (i := 6) rfl))) (fun hb =>
sm_as <|
sm_some (sev_rt (ev_bl) (wk_uns rfl))) (fun hb =>
sm_nil <|
sm_nil <|
sm_some (sev_go (wk_e <| wk_e <| wk_e <| wk_e <| wk_e <| wk_e <| wk_e <| wk_u <| wk_u <| wk_u <| wk_u <| wk_u <| wk_n)))))) (fun s36 =>
sm_as <|
sm_some (sev_rt (ev_bl) (wk_uns rfl))) (fun _ => rfl)⟩
end G

namespace G
open PySem PySem.Spec L2 DL PyProof.Rows
def LawT (K : PySem.W.Frag) : Sp := FSpec K (RD fun ds d => ∃ (ns : List Int) (r : Bool), ds = [.lst (ns.map Dt.int)] ∧ m_law ns = some r ∧ d = .bl r)
set_option maxHeartbeats 0 in
theorem facts {w : World} {K : PySem.W.Frag} {h : Heap} {mg : Str → Option Value} {fa : Addr} (X : K.In h) (G : h.Ns mainGlobals mg) (hfa : mg ("law" : Str) = some (.ref fa)) (c : Hd.SaysX cks dfs exs K) :
    ∃ fd : FuncData, (∀ (s : Shared) (v : Value), BindsTo s fd ⟨[v], []⟩ [("_law_script", v)]) ∧ ∀ base : Heap, K.In base → base.Ns mainGlobals mg → FnOk PySem.Challenge.rw_armwarrant_k65_what_holds_up.prog w K mg base CX0 7 fa fd ["_law_script"] (LawT K) := by
  obtain ⟨d0, F0⟩ := c.def_ 0 (d := df0) rfl
  obtain ⟨d1, F1⟩ := c.def_ 1 (d := df1) rfl
  obtain ⟨d2, F2⟩ := c.def_ 2 (d := df2) rfl
  obtain ⟨d3, F3⟩ := c.def_ 3 (d := df3) rfl
  obtain ⟨d4, F4⟩ := c.def_ 4 (d := df4) rfl
  obtain ⟨d5, F5⟩ := c.def_ 5 (d := df5) rfl
  obtain ⟨d6, F6⟩ := c.def_ 6 (d := df6) rfl
  obtain ⟨d7, F7⟩ := c.def_ 7 (d := df7) rfl
  obtain ⟨d8, F8⟩ := c.def_ 8 (d := df8) rfl
  obtain ⟨d9, F9⟩ := c.def_ 9 (d := df9) rfl
  obtain ⟨d10, F10⟩ := c.def_ 10 (d := df10) rfl
  obtain ⟨d11, F11⟩ := c.def_ 11 (d := df11) rfl
  obtain ⟨d12, F12⟩ := c.def_ 12 (d := df12) rfl
  obtain ⟨d13, F13⟩ := c.def_ 13 (d := df13) rfl
  obtain ⟨d14, F14⟩ := c.def_ 14 (d := df14) rfl
  obtain ⟨d15, F15⟩ := c.def_ 15 (d := df15) rfl
  obtain ⟨d16, F16⟩ := c.def_ 16 (d := df16) rfl
  obtain ⟨d17, F17⟩ := c.def_ 17 (d := df17) rfl
  obtain ⟨d18, F18⟩ := c.def_ 18 (d := df18) rfl
  obtain ⟨d19, F19⟩ := c.def_ 19 (d := df19) rfl
  obtain ⟨d20, F20⟩ := c.def_ 20 (d := df20) rfl
  obtain ⟨d21, F21⟩ := c.def_ 21 (d := df21) rfl
  obtain ⟨d22, F22⟩ := c.def_ 22 (d := df22) rfl
  obtain ⟨d23, F23⟩ := c.def_ 23 (d := df23) rfl
  obtain ⟨d24, F24⟩ := c.def_ 24 (d := df24) rfl
  obtain ⟨d25, F25⟩ := c.def_ 25 (d := df25) rfl
  obtain ⟨d26, F26⟩ := c.def_ 26 (d := df26) rfl
  obtain ⟨d27, F27⟩ := c.def_ 27 (d := df27) rfl
  obtain ⟨d28, F28⟩ := c.def_ 28 (d := df28) rfl
  obtain ⟨d29, F29⟩ := c.def_ 29 (d := df29) rfl
  have e := hfa.symm.trans (He.glo_ok X G (c.fact 1 4 (f := fun K => He.Fa.ok K (.glo "law")) rfl rfl))
  cases e
  have T : Top K mg { w := w, f__law_number := (He.ga K "_law_number"), d__law_number := d0, f__law_digits := (He.ga K "_law_digits"), d__law_digits := d1, f__law_digit := (He.ga K "_law_digit"), d__law_digit := d2, f__law_step := (He.ga K "_law_step"), d__law_step := d3, f__law_place := (He.ga K "_law_place"), d__law_place := d4, f__law_plan := (He.ga K "_law_plan"), d__law_plan := d5, f__law_more := (He.ga K "_law_more"), d__law_more := d6, t_Plan_init_blocked := Hd.kwAt ("Plan", some "__init__") "blocked" K, f_Plan_init := (He.ma K (He.ga K "Plan") "__init__"), d_Plan_init := d7, f__law_landing := (He.ga K "_law_landing"), d__law_landing := d8, f__law_start := (He.ga K "_law_start"), d__law_start := d9, f_Plan_has_ended := (He.ma K (He.ga K "Plan") "has_ended"), d_Plan_has_ended := d10, f_Plan_all_ended := (He.ma K (He.ga K "Plan") "all_ended"), d_Plan_all_ended := d11, f_Plan_step_of := (He.ma K (He.ga K "Plan") "step_of"), d_Plan_step_of := d12, f_Plan_wanted := (He.ma K (He.ga K "Plan") "wanted"), d_Plan_wanted := d13, f_Plan_rest_of := (He.ma K (He.ga K "Plan") "rest_of"), d_Plan_rest_of := d14, f_Plan_is_clear := (He.ma K (He.ga K "Plan") "is_clear"), d_Plan_is_clear := d15, f_Plan_hindered_by := (He.ma K (He.ga K "Plan") "hindered_by"), d_Plan_hindered_by := d16, f_Plan_can_step := (He.ma K (He.ga K "Plan") "can_step"), d_Plan_can_step := d17, f_first_stepper := (He.ga K "first_stepper"), d_first_stepper := d18, f_what_holds_up := (He.ga K "what_holds_up"), d_what_holds_up := d19, f__law_at := (He.ga K "_law_at"), d__law_at := d20, f__law_wanted := (He.ga K "_law_wanted"), d__law_wanted := d21, f__law_clear := (He.ga K "_law_clear"), d__law_clear := d22, f__law_hinders := (He.ga K "_law_hinders"), d__law_hinders := d23, f__law_can := (He.ga K "_law_can"), d__law_can := d24, f__law_holds := (He.ga K "_law_holds"), d__law_holds := d25, f__law_moved := (He.ga K "_law_moved"), d__law_moved := d26, f__law_outcomes := (He.ga K "_law_outcomes"), d__law_outcomes := d27, f__law_next := (He.ga K "_law_next"), d__law_next := d28, f_law := (He.ga K "law"), d_law := d29, c_Plan := (He.ga K "Plan") } := {
    F__law_number := Hd.toFun (st := (topS 7)) F0,
    g__law_number := (He.glo_ok X G (c.fact 0 0 (f := fun K => He.Fa.ok K (.glo "_law_number")) rfl rfl)),
    F__law_digits := Hd.toFun (st := (topS 8)) F1,
    g__law_digits := (He.glo_ok X G (c.fact 0 1 (f := fun K => He.Fa.ok K (.glo "_law_digits")) rfl rfl)),
    F__law_digit := Hd.toFun (st := (topS 9)) F2,
    g__law_digit := (He.glo_ok X G (c.fact 0 2 (f := fun K => He.Fa.ok K (.glo "_law_digit")) rfl rfl)),
    F__law_step := Hd.toFun (st := (topS 10)) F3,
    g__law_step := (He.glo_ok X G (c.fact 0 3 (f := fun K => He.Fa.ok K (.glo "_law_step")) rfl rfl)),
    F__law_place := Hd.toFun (st := (topS 11)) F4,
    g__law_place := (He.glo_ok X G (c.fact 0 4 (f := fun K => He.Fa.ok K (.glo "_law_place")) rfl rfl)),
    F__law_plan := Hd.toFun (st := (topS 12)) F5,
    g__law_plan := (He.glo_ok X G (c.fact 0 5 (f := fun K => He.Fa.ok K (.glo "_law_plan")) rfl rfl)),
    F__law_more := Hd.toFun (st := (topS 23)) F6,
    g__law_more := (He.glo_ok X G (c.fact 0 6 (f := fun K => He.Fa.ok K (.glo "_law_more")) rfl rfl)),
    e_Plan_init_blocked := Hd.nul_ok (c.fact 0 7 (f := fun K => Hd.nulB K (Hd.kwAt ("Plan", some "__init__") "blocked" K)) rfl rfl),
    F_Plan_init := Hd.toFun (st := (inClass (topS 5) 0)) F7,
    D_Plan_init := F7,
    F__law_landing := Hd.toFun (st := (topS 13)) F8,
    g__law_landing := (He.glo_ok X G (c.fact 0 8 (f := fun K => He.Fa.ok K (.glo "_law_landing")) rfl rfl)),
    F__law_start := Hd.toFun (st := (topS 14)) F9,
    g__law_start := (He.glo_ok X G (c.fact 0 9 (f := fun K => He.Fa.ok K (.glo "_law_start")) rfl rfl)),
    F_Plan_has_ended := Hd.toFun (st := (inClass (topS 5) 4)) F10,
    m_Plan_has_ended := He.meth_ok (c.fact 0 10 (f := fun K => He.Fa.ok K (.meth "Plan" "has_ended")) rfl rfl),
    F_Plan_all_ended := Hd.toFun (st := (inClass (topS 5) 5)) F11,
    m_Plan_all_ended := He.meth_ok (c.fact 0 11 (f := fun K => He.Fa.ok K (.meth "Plan" "all_ended")) rfl rfl),
    F_Plan_step_of := Hd.toFun (st := (inClass (topS 5) 3)) F12,
    m_Plan_step_of := He.meth_ok (c.fact 0 12 (f := fun K => He.Fa.ok K (.meth "Plan" "step_of")) rfl rfl),
    F_Plan_wanted := Hd.toFun (st := (inClass (topS 5) 7)) F13,
    m_Plan_wanted := He.meth_ok (c.fact 0 13 (f := fun K => He.Fa.ok K (.meth "Plan" "wanted")) rfl rfl),
    F_Plan_rest_of := Hd.toFun (st := (inClass (topS 5) 6)) F14,
    m_Plan_rest_of := He.meth_ok (c.fact 0 14 (f := fun K => He.Fa.ok K (.meth "Plan" "rest_of")) rfl rfl),
    F_Plan_is_clear := Hd.toFun (st := (inClass (topS 5) 1)) F15,
    m_Plan_is_clear := He.meth_ok (c.fact 0 15 (f := fun K => He.Fa.ok K (.meth "Plan" "is_clear")) rfl rfl),
    F_Plan_hindered_by := Hd.toFun (st := (inClass (topS 5) 8)) F16,
    m_Plan_hindered_by := He.meth_ok (c.fact 0 16 (f := fun K => He.Fa.ok K (.meth "Plan" "hindered_by")) rfl rfl),
    F_Plan_can_step := Hd.toFun (st := (inClass (topS 5) 9)) F17,
    m_Plan_can_step := He.meth_ok (c.fact 0 17 (f := fun K => He.Fa.ok K (.meth "Plan" "can_step")) rfl rfl),
    F_first_stepper := Hd.toFun (st := (topS 2)) F18,
    g_first_stepper := (He.glo_ok X G (c.fact 0 18 (f := fun K => He.Fa.ok K (.glo "first_stepper")) rfl rfl)),
    F_what_holds_up := Hd.toFun (st := (topS 3)) F19,
    g_what_holds_up := (He.glo_ok X G (c.fact 0 19 (f := fun K => He.Fa.ok K (.glo "what_holds_up")) rfl rfl)),
    F__law_at := Hd.toFun (st := (topS 16)) F20,
    g__law_at := (He.glo_ok X G (c.fact 0 20 (f := fun K => He.Fa.ok K (.glo "_law_at")) rfl rfl)),
    F__law_wanted := Hd.toFun (st := (topS 17)) F21,
    g__law_wanted := (He.glo_ok X G (c.fact 0 21 (f := fun K => He.Fa.ok K (.glo "_law_wanted")) rfl rfl)),
    F__law_clear := Hd.toFun (st := (topS 15)) F22,
    g__law_clear := (He.glo_ok X G (c.fact 0 22 (f := fun K => He.Fa.ok K (.glo "_law_clear")) rfl rfl)),
    F__law_hinders := Hd.toFun (st := (topS 18)) F23,
    g__law_hinders := (He.glo_ok X G (c.fact 0 23 (f := fun K => He.Fa.ok K (.glo "_law_hinders")) rfl rfl)),
    F__law_can := Hd.toFun (st := (topS 19)) F24,
    g__law_can := (He.glo_ok X G (c.fact 0 24 (f := fun K => He.Fa.ok K (.glo "_law_can")) rfl rfl)),
    F__law_holds := Hd.toFun (st := (topS 24)) F25,
    g__law_holds := (He.glo_ok X G (c.fact 1 0 (f := fun K => He.Fa.ok K (.glo "_law_holds")) rfl rfl)),
    F__law_moved := Hd.toFun (st := (topS 20)) F26,
    g__law_moved := (He.glo_ok X G (c.fact 1 1 (f := fun K => He.Fa.ok K (.glo "_law_moved")) rfl rfl)),
    F__law_outcomes := Hd.toFun (st := (topS 21)) F27,
    g__law_outcomes := (He.glo_ok X G (c.fact 1 2 (f := fun K => He.Fa.ok K (.glo "_law_outcomes")) rfl rfl)),
    F__law_next := Hd.toFun (st := (topS 25)) F28,
    g__law_next := (He.glo_ok X G (c.fact 1 3 (f := fun K => He.Fa.ok K (.glo "_law_next")) rfl rfl)),
    F_law := Hd.toFun (st := (topS 26)) F29,
    g_law := (He.glo_ok X G (c.fact 1 4 (f := fun K => He.Fa.ok K (.glo "law")) rfl rfl)),
    gc_Plan := (He.glo_ok X G (c.fact 1 5 (f := fun K => He.Fa.ok K (.glo "Plan")) rfl rfl)),
    cl_Plan := He.cls_ok (c.fact 1 6 (f := fun K => He.Fa.ok K (.cls "Plan")) rfl rfl),
    mk_Plan := He.mkr_ok (c.fact 1 7 (f := fun K => He.Fa.ok K (.mkr "Plan")) rfl rfl),
    n_Plan_flows := He.noat_ok (c.fact 1 8 (f := fun K => He.Fa.ok K (.noat "Plan" "flows")) rfl rfl),
    n_Plan_starts := He.noat_ok (c.fact 1 9 (f := fun K => He.Fa.ok K (.noat "Plan" "starts")) rfl rfl),
    n_Plan_blocks := He.noat_ok (c.fact 1 10 (f := fun K => He.Fa.ok K (.noat "Plan" "blocks")) rfl rfl),
    z_int := He.free_ok X G (c.fact 1 11 (f := fun K => He.Fa.ok K (.free "int")) rfl rfl),
    z_len := He.free_ok X G (c.fact 1 12 (f := fun K => He.Fa.ok K (.free "len")) rfl rfl),
    z_list := He.free_ok X G (c.fact 1 13 (f := fun K => He.Fa.ok K (.free "list")) rfl rfl),
    z_range := He.free_ok X G (c.fact 1 14 (f := fun K => He.Fa.ok K (.free "range")) rfl rfl),
    z_tuple := He.free_ok X G (c.fact 1 15 (f := fun K => He.Fa.ok K (.free "tuple")) rfl rfl) }
  have b := L2.FunD.bindsA (ps := ["_law_script"]) F29 fun _ _ _ _ _ _ us hl => match us, hl with | [_], _ => rfl
  exact ⟨d29, fun s v => b s [v] rfl, fun base _ _ => (ok_law T).imp fun vs H Q E h => h⟩
end G
open PySem PySem.W PySem.Calls PyProof.Rows
set_option maxRecDepth 100000 in
set_option maxHeartbeats 0 in
theorem PySem.Challenge.cw_armwarrant_k65_what_holds_up_holds : PySem.Challenge.rw_armwarrant_k65_what_holds_up.Holds := by
  w_on; o_law
  refine HandSHeadRun.head_any (r := OpenLaw.row PySem.Challenge.rw_armwarrant_k65_what_holds_up) (q := _root_.G.qv) (H := _root_.G.hk) (ob := _root_.G.ob) (M := 40000) (loose := _root_.G.nms) (d := HandSHeadRun.topDef (OpenLaw.row PySem.Challenge.rw_armwarrant_k65_what_holds_up).prog 26) (kwd := []) _root_.G.ob_eq (by kernel_rfl) (fun s => by kernel_rfl) _root_.G.hrun (by kernel_rfl) (by kernel_rfl) (by kernel_rfl) (by rfl) (by first | assumption | decide +kernel) (by decide +kernel) ⟨rfl, rfl, rfl, rfl, rfl, by decide +kernel⟩ ?hw ?hc
  case hw => w_witness2
  case hc =>
    refine Hd.walk_ofEB (l := PySem.Challenge.rw_armwarrant_k65_what_holds_up) (n := 63) (k := 7) (x := "_law_script") (CX := L2.CX0) rfl (by decide) (by kernel_rfl) ⟨rfl, by decide, by decide⟩ ?F (fun _ _ _ _ z => z)
    intro w mg fa h Y G hmg0
    obtain ⟨K, KX, c⟩ := Y
    have hmg : mg ("law" : PySem.Str) = some (.ref fa) := by
      have e : (HandSHeadRun.topDef (OpenLaw.row PySem.Challenge.rw_armwarrant_k65_what_holds_up).prog 26).name = ("law" : PySem.Str) := by kernel_rfl
      rw [← e]
      exact hmg0
    obtain ⟨fd, hb, hF⟩ := _root_.G.facts (w := w) KX G hmg c
    exact ⟨K, fd, _root_.G.LawT K, KX, hb, fun H a ns hl hb _ hS => DL.law_sp (_root_.G.law_true ns hl hb) hS, hF⟩
