import PyProof.Rows.All
import Wide.All
import OpenK.AllK
import Wide.FinOn
import KE.KStateDown
import Lean
import HandS.Head0
import HandS.Head1
import HandS.Head2
import HandS.HeadEnd
import HandS.HeadHook1
import HandS.HeadHook2
import HandS.EndTab
import HandS.Slots
import HandS.Property
import KE.KNestM
import HandS.Words
import KE.KExcInit
import HandS.ExcField
import HandS.Head3
import HandS.Defaults
import HandS.More
import HandS.Spec
import HandS.Lambda
import HandS.ForMost
import HandS.ForExc
import HandS.SlotsOwn
import HandS.SlotsVar
import HandS.Wide
import HandS.Gcd
import HandS.Iter
import HandS.TupMul
import HandS.TupAny
import HandS.SortInts
import HandS.Style
import HandS.MakeKw
import HandS.CallSlots
import HandS.ClsMeth
import HandS.FStr
import HandS.IsInst
import HandS.DictSubView
import HandS.DictTup
import HandS.Conv
import HandS.WordsExc
import HandS.MakeKwOnly
import KE.KExcSuper
import HandS.Star
import HandS.OwnEq
import HandS.DeepEq
import HandS.RaiseMore
import PyProof.WalksEnum
import PyProof.EnumMake
import PyProof.Draws
import PyProof.TupleIter
import PyProof.WalksMore
import PyProof.GenCompT
import HandS.AnyAll
import KE.KDictIter
import PyProof.ReprRoads
import KE.KCallOwn
import HandS.Sort
import HandS.SortKw
import KE.DataMinMax
import KE.KDictList
import PySem.Challenge.RW_lawseries_k70_errors_of_ghosts
set_option Elab.async false
set_option linter.all false
set_option maxRecDepth 100000
set_option maxHeartbeats 4000000
/-! Dx.Tst: the tests of what a top has laid. -/
namespace Dx
open PySem PySem.Spec PyProof.Rows L2
/-- a def without defaults, at an address that the written part tells -/
structure DfX where
  ad : PySem.W.Frag → Addr
  nm : Str
  qn : Str
  st : Stmt
  /-- its closure is not looked at here -/
  su : Bool := false
  dfl : List V := []
  kwd : List (Str × V) := []
def seeX (K : PySem.W.Frag) (a : Addr) : He.FnW := (K.lookup a).bind fun o => match o.data with
  | .func z => some (z.name, z.qualname, z.params, z.body, z.scope, z.globals, z.closure, z.builtins)
  | _ => none
def seeI (K : PySem.W.Frag) (a : Addr) : He.FnW := (K.lookup a).bind fun o => match o.data with
  | .func z => some (z.name, z.qualname, z.params, z.body, z.scope, z.globals, [], z.builtins)
  | _ => none
def seeD (K : PySem.W.Frag) (d : DfX) : He.FnW := match d.su with
  | true => seeI K (d.ad K)
  | false => seeX K (d.ad K)
def DfX.due (d : DfX) : He.FnW := some (d.nm, d.qn, defArgs d.st, .stmts (defBody d.st), defScope d.st, mainGlobals, [], builtinsNs)
def noV : Value → Bool
  | .none => true
  | _ => false
def okX (K : PySem.W.Frag) (d : DfX) : Bool := PySem.W.keepIn K (.ref (d.ad K)) && ((K.lookup (d.ad K)).elim false fun o => match o.data with
  | .func z => PySem.W.codeIn K z.code d.qn && (He.dflB K z.defaults d.dfl && He.kwdB K z.kwdefaults d.kwd)
  | _ => false)
theorem funX {K : PySem.W.Frag} {d : DfX} (e : seeX K (d.ad K) = d.due) (c : okX K d = true) : ∃ fd, FunD K d.nm d.qn (defArgs d.st) (defBody d.st) (defScope d.st) d.dfl d.kwd (d.ad K) fd := by
  obtain ⟨kp, c2⟩ := Bool.and_eq_true_iff.mp c
  unfold seeX at e
  cases q : K.lookup (d.ad K) with
  | none =>
    rw [q] at c2
    cases c2
  | some o =>
    rw [q] at c2 e
    obtain ⟨oc, od, dt, osl⟩ := o
    cases dt with
    | func z =>
      obtain ⟨n1, n2, n3, n4, n5, n6, n7, n8, n9, n10, n11, n12, n13, n14, n15⟩ := z
      have e2 : (some (n1, n2, n3, n4, n5, n6, n7, n15) : He.FnW) = d.due := e
      unfold DfX.due at e2
      simp only [Option.some.injEq, Prod.mk.injEq] at e2
      obtain ⟨h1, h2, h3, h4, h5, h6, h7, h8⟩ := e2
      subst h1 h2 h3 h4 h5 h6 h7 h8
      have c3 : (PySem.W.codeIn K n13 d.qn && (He.dflB K n8 d.dfl && He.kwdB K n9 d.kwd)) = true := c2
      obtain ⟨k1, k2⟩ := Bool.and_eq_true_iff.mp c3
      obtain ⟨k3, k4⟩ := Bool.and_eq_true_iff.mp k2
      exact ⟨_, ⟨oc, od, n8, n9, n10, n11, n12, n13, n14, osl, rfl, q, k1, He.dflB_ok k3, He.kwdB_ok k4⟩, kp⟩
    | _ => cases c2
/-! ### tests of classes with slots -/
def fstRef : Option (Option Value) → Option Addr
  | some (some (.ref a)) => some a
  | _ => none
def atX (K : PySem.W.Frag) (C : Addr) (f : Str) : Addr := (fstRef (PySem.W.findIn K (.ref C) f)).getD 0
/-- the function of a property -/
def prX (K : PySem.W.Frag) (C : Addr) (f : Str) : Addr := match PySem.W.recIn K (atX K C f) "property" with
  | some (.ref g :: _) => g
  | _ => 0
def sclB (K : PySem.W.Frag) (C : Addr) : Bool := PySem.W.plainGet K C Str.empty && PySem.W.isClsIn K C && PySem.W.plainOver K C && He.eqO (PySem.W.findIn K (.ref C) "__setattr__") (some (some (.builtin "object.__setattr__")))
theorem sclB_ok {K : PySem.W.Frag} {C : Addr} (h : sclB K C = true) : SlX.SCls K C := by
  unfold sclB at h
  simp only [Bool.and_eq_true] at h
  exact ⟨h.1.1.1, h.1.1.2, h.1.2, He.eqO_ok h.2⟩
def slB (K : PySem.W.Frag) (C : Addr) (f : Str) (i : Nat) : Bool := He.eqO (PySem.W.findIn K (.ref C) f) (some (some (.ref (atX K C f)))) && He.eqO (PySem.W.specialIn K (.ref (atX K C f)) "__get__") (some (some (.builtin "member_descriptor.__get__"))) &&
  decide (PySem.W.takesIn K (.ref (atX K C f)) = some true) && decide (PySem.W.typeIn K (.ref (atX K C f)) = some (.type "member_descriptor")) && decide (PySem.W.slotIn K (atX K C f) C = some i) && decide (i < 1000)
theorem slB_ok {K : PySem.W.Frag} {C : Addr} {f : Str} {i : Nat} (h : slB K C f i = true) : SlX.Slot1 K C f (atX K C f) i := by
  unfold slB at h
  simp only [Bool.and_eq_true, decide_eq_true_eq] at h
  exact ⟨He.eqO_ok h.1.1.1.1.1, He.eqO_ok h.1.1.1.1.2, h.1.1.1.2, h.1.1.2, h.1.2, h.2⟩
def meB (K : PySem.W.Frag) (C : Addr) (f : Str) : Bool := He.eqO (PySem.W.findIn K (.ref C) f) (some (some (.ref (atX K C f)))) && PySem.W.isFn K (.ref (atX K C f)) && PySem.W.keepIn K (.ref (atX K C f))
theorem meB_ok {K : PySem.W.Frag} {C : Addr} {f : Str} (h : meB K C f = true) : Meth K C f (atX K C f) := by
  unfold meB at h
  simp only [Bool.and_eq_true] at h
  exact ⟨He.eqO_ok h.1.1, h.1.2, h.2⟩
def mkB (K : PySem.W.Frag) (C : Addr) : Bool := PySem.W.makesIn K C && He.eqO (PySem.W.findIn K (.ref C) "__init__") (some (some (.ref (atX K C "__init__")))) && PySem.W.isFn K (.ref (atX K C "__init__")) && PySem.W.keepIn K (.ref C)
theorem mkB_ok {K : PySem.W.Frag} {C : Addr} (h : mkB K C = true) : Mk K C (atX K C "__init__") := by
  unfold mkB at h
  simp only [Bool.and_eq_true] at h
  exact ⟨h.1.1.1, He.eqO_ok h.1.1.2, h.1.2, h.2⟩
def pvB (K : PySem.W.Frag) (C : Addr) (f : Str) : Bool := He.eqO (PySem.W.findIn K (.ref C) f) (some (some (.ref (atX K C f)))) && He.eqO (PySem.W.specialIn K (.ref (atX K C f)) "__get__") (some (some (.builtin "property.__get__"))) &&
  decide (PySem.W.takesIn K (.ref (atX K C f)) = some true) && (match PySem.W.recIn K (atX K C f) "property" with
    | some (.ref _ :: _) => true
    | _ => false)
theorem pvB_ok {K : PySem.W.Frag} {C : Addr} {f : Str} (h : pvB K C f = true) : PySem.W.findIn K (.ref C) f = some (some (.ref (atX K C f))) ∧ PySem.W.specialIn K (.ref (atX K C f)) "__get__" = some (some (.builtin "property.__get__")) ∧
    PySem.W.takesIn K (.ref (atX K C f)) = some true ∧ ∃ rest, PySem.W.recIn K (atX K C f) "property" = some (.ref (prX K C f) :: rest) := by
  unfold pvB at h
  simp only [Bool.and_eq_true, decide_eq_true_eq] at h
  refine ⟨He.eqO_ok h.1.1.1, He.eqO_ok h.1.1.2, h.1.2, ?_⟩
  have h4 := h.2
  unfold prX
  split at h4
  · rename_i g rest e
    rw [e]
    exact ⟨rest, rfl⟩
  · cases h4
/-! ### the tests of a top, in one Hook -/
structure TstX where
  ts : List (PySem.W.Frag → Bool)
  ds : List DfX
def TstX.see (t : TstX) (K : PySem.W.Frag) : Bool × List He.FnW := ((t.ts.all fun f => f K) && t.ds.all (okX K), t.ds.map (seeD K))
def TstX.due (t : TstX) : Bool × List He.FnW := (true, t.ds.map DfX.due)
def TstX.obs (t : TstX) (n : Nat) (g : Addr → Option Obj) : Bool × List He.FnW := t.see (He.frG g (He.asD g n))
def TstX.hook (t : TstX) (n : Nat) : PySem.W.Hook where
  α := Bool × List He.FnW
  obs := fun s => t.obs n s.heap.get?
  val := fun _ => t.due
  says := fun _ h => ∃ K : PySem.W.Frag, K.In h ∧ t.see K = t.due
  of := fun _ _ e => ⟨_, He.frG_in, e⟩
  keeps := fun _ _ _ ⟨K, hK, c⟩ k => ⟨K, PySem.W.Frag.In.keeps hK k, c⟩
def TstX.ob (t : TstX) (n : Nat) (s : PySem.W.SharedT) : Bool × List He.FnW := t.obs n (HandSHeadRun.getT s)
theorem TstX.ob_eq (t : TstX) (n : Nat) (s : PySem.W.SharedT) : t.ob n s = (t.hook n).obs s.abs := by
  show t.obs n (HandSHeadRun.getT s) = t.obs n s.abs.heap.get?
  rw [show HandSHeadRun.getT s = s.abs.heap.get? from funext (HandSHeadRun.getT_eq s)]
section
variable {t : TstX} {K : PySem.W.Frag} (c : t.see K = t.due)
include c
theorem TstX.tst (i : Nat) {f : PySem.W.Frag → Bool} (h : t.ts[i]? = some f := by rfl) : f K = true :=
  List.all_eq_true.mp (Bool.and_eq_true_iff.mp (congrArg Prod.fst c)).1 f (List.mem_of_getElem? h)
theorem TstX.def_ (i : Nat) {d : DfX} (h : t.ds[i]? = some d := by rfl) (hs : d.su = false := by rfl) : ∃ fd, FunD K d.nm d.qn (defArgs d.st) (defBody d.st) (defScope d.st) d.dfl d.kwd (d.ad K) fd := by
  have c2 := (Bool.and_eq_true_iff.mp (congrArg Prod.fst c)).2
  have e : (t.ds.map (seeD K)) = t.ds.map DfX.due := congrArg Prod.snd c
  have e2 : (t.ds.map (seeD K))[i]? = (t.ds.map DfX.due)[i]? := by rw [e]
  rw [List.getElem?_map, List.getElem?_map, h] at e2
  have e3 : seeD K d = d.due := Option.some.inj e2
  unfold seeD at e3
  rw [hs] at e3
  exact funX e3 (List.all_eq_true.mp c2 d (List.mem_of_getElem? h))
theorem TstX.defI (i : Nat) {d : DfX} (h : t.ds[i]? = some d := by rfl) (hs : d.su = true := by rfl) : seeI K (d.ad K) = d.due ∧ okX K d = true := by
  have c2 := (Bool.and_eq_true_iff.mp (congrArg Prod.fst c)).2
  have e : (t.ds.map (seeD K)) = t.ds.map DfX.due := congrArg Prod.snd c
  have e2 : (t.ds.map (seeD K))[i]? = (t.ds.map DfX.due)[i]? := by rw [e]
  rw [List.getElem?_map, List.getElem?_map, h] at e2
  have e3 : seeD K d = d.due := Option.some.inj e2
  unfold seeD at e3
  rw [hs] at e3
  exact ⟨e3, List.all_eq_true.mp c2 d (List.mem_of_getElem? h)⟩
end
/-! ### addresses -/
def cdX (K : PySem.W.Frag) (f : Addr) : Addr := match K.lookup f with
  | some o => (match o.data with
    | .func z => (match z.code with
      | .ref c => c
      | _ => 0)
    | _ => 0)
  | none => 0
def tbX (K : PySem.W.Frag) (f : Addr) : Addr := match K.lookup (cdX K f) with
  | some o => (match o.data with
    | .fields vs => (match (vs[11]? : Option Value) with
      | some (.ref P) => P
      | _ => 0)
    | _ => 0)
  | none => 0
def isTab (o : Option Obj) : Bool := match o with
  | some ⟨.none, none, .fields vs, sl⟩ => vs.size == 0 && sl.size == 0
  | _ => false
theorem isTab_ok {o : Option Obj} (h : isTab o = true) : o = some { cls := .none, data := .fields #[] } := by
  unfold isTab at h
  split at h
  · rename_i vs sl
    obtain ⟨h1, h2⟩ := Bool.and_eq_true_iff.mp h
    have e1 : vs = #[] := Array.eq_empty_of_size_eq_zero (beq_iff_eq.mp h1)
    have e2 : sl = #[] := Array.eq_empty_of_size_eq_zero (beq_iff_eq.mp h2)
    rw [e1, e2]
  · cases h
/-! ### the tests -/
structure TstY where
  ts : List (PySem.W.Frag → Bool)
  ds : List DfX
  /-- functions whose code's table is written -/
  tb : List (PySem.W.Frag → Addr)
  ads : List Addr
def TstY.x (t : TstY) : TstX := ⟨t.ts, t.ds⟩
def TstY.obs (t : TstY) (g : Addr → Option Obj) : (Bool × List He.FnW) × Bool := (t.x.see (He.frG g t.ads), t.tb.all fun f => isTab (g (tbX (He.frG g t.ads) (f (He.frG g t.ads)))) && ((He.frG g t.ads).lookup (tbX (He.frG g t.ads) (f (He.frG g t.ads)))).isNone &&
  PySem.W.codeHdIn (He.frG g t.ads) (cdX (He.frG g t.ads) (f (He.frG g t.ads))) (tbX (He.frG g t.ads) (f (He.frG g t.ads))))
structure TstY.Says (t : TstY) (K : PySem.W.Frag) (h : Heap) : Prop where
  x : K.In h
  c : t.x.see K = t.x.due
  tab : ∀ f ∈ t.tb, h.get? (tbX K (f K)) = some { cls := .none, data := .fields #[] } ∧ K.lookup (tbX K (f K)) = none ∧ PySem.W.CodeHd h (cdX K (f K)) (tbX K (f K))
def TstY.hook (t : TstY) : PySem.W.Hook where
  α := (Bool × List He.FnW) × Bool
  obs := fun s => t.obs s.heap.get?
  val := fun _ => (t.x.due, true)
  says := fun _ h => ∃ K : PySem.W.Frag, t.Says K h
  of := fun w s e => ⟨He.frG s.heap.get? t.ads, He.frG_in, congrArg Prod.fst e, fun f hf => by
    have h := List.all_eq_true.mp (congrArg Prod.snd e) f hf
    simp only [Bool.and_eq_true] at h
    exact ⟨isTab_ok h.1.1, Option.isNone_iff_eq_none.mp h.1.2, PySem.W.codeHd_of_K He.frG_in h.2⟩⟩
  keeps := fun _ _ _ ⟨K, s⟩ k => ⟨K, s.x.keeps k, s.c, fun f hf => by
    obtain ⟨h1, h2, h3⟩ := s.tab f hf
    exact ⟨k _ _ h1, h2, h3.keeps k⟩⟩
def TstY.ob (t : TstY) (s : PySem.W.SharedT) : (Bool × List He.FnW) × Bool := t.obs (HandSHeadRun.getT s)
theorem TstY.ob_eq (t : TstY) (s : PySem.W.SharedT) : t.ob s = t.hook.obs s.abs := by
  show t.obs (HandSHeadRun.getT s) = t.obs s.abs.heap.get?
  rw [show HandSHeadRun.getT s = s.abs.heap.get? from funext (HandSHeadRun.getT_eq s)]
def exmB (K : PySem.W.Frag) (A C : Addr) (b : Bool) : Bool := decide (PySem.W.exmOne K (.ref A) (.ref C) = some b)
def ex0B (K : PySem.W.Frag) (C : Addr) (newId : String) (bm : List Value) : Bool := PySem.W.excIn K C bm newId && PySem.W.keepIn K (.ref C) && decide (PySem.W.subIn K (.ref C) (.type "BaseException") = some true) && decide (PySem.W.typeIn K (.ref C) = some (.type "type"))
def clX (K : PySem.W.Frag) (f : Addr) : Addr := match K.lookup f with
  | some o => (match o.data with
    | .func z => (match z.closure with
      | [(_, c)] => c
      | _ => 0)
    | _ => 0)
  | none => 0
def fvX (K : PySem.W.Frag) (c : Addr) : Array Value := match K.lookup c with
  | some o => (match o.data with
    | .fields vs => vs
    | _ => #[])
  | none => #[]
def xinB (K : PySem.W.Frag) (file : Str) (C : Addr) (f qn : Str) (B newId initId : String) (bm : List Value) : Bool :=
  PySem.W.excInitIn K C bm newId && PySem.W.excOver K C bm && He.eqO (PySem.W.takerIn K C f) (some none) && PySem.W.hasDictIn K C && He.eqO (PySem.W.findIn K (.ref C) "__setattr__") (some (some (.builtin "object.__setattr__"))) &&
  He.eqO (PySem.W.nsIn K PySem.cStatics "thirdparty.any") (some none) && He.eqO (PySem.W.ks_superIn K C C "__init__") (some (some (.builtin initId))) && decide (PySem.W.subIn K (.ref C) (.type B) = some true) && decide (PySem.W.mroIn K C (.ref C) = some true) &&
  He.eqO (PySem.W.findIn K (.ref C) "__init__") (some (some (.ref (atX K C "__init__")))) && decide (PySem.W.typeIn K (.ref (atX K C "__init__")) = some (.type "function")) && PySem.W.keepIn K (.ref C) &&
  decide (PySem.W.subIn K (.ref C) (.type "BaseException") = some true) && decide (PySem.W.typeIn K (.ref C) = some (.type "type"))
def xifB (K : PySem.W.Frag) (file : Str) (C : Addr) : Bool := match K.lookup (atX K C "__init__") with
  | some ⟨_, _, .func z, _⟩ => (match z.closure, z.code with
    | [(n, c)], .ref d => (n == ("__class__" : Str)) && (match K.lookup c with
      | some ⟨_, _, .cell (some (.ref C')), _⟩ => C' == C
      | _ => false) && (match K.lookup d with
      | some ⟨_, _, .fields vs, _⟩ => (match (vs[2]? : Option Value) with
        | some (.str fl _) => file == fl
        | _ => false)
      | _ => false)
    | _, _ => false)
  | _ => false
def cdB (K : PySem.W.Frag) (f : Addr) : Bool := match K.lookup f with
  | some ⟨_, _, .func z, _⟩ => (match z.code with
    | .ref _ => true
    | _ => false)
  | _ => false
def kindN : Nat → String
  | 0 => "int"
  | 1 => "bool"
  | 2 => "str"
  | 3 => "tuple"
  | 4 => "list"
  | 5 => "dict"
  | _ => "NoneType"
def isB (K : PySem.W.Frag) (A C : Addr) (b : Bool) : Bool := sclT K A && decide (PySem.W.kitOne K (.ref A) (.ref C) = some b)
where sclT (K : PySem.W.Frag) (A : Addr) : Bool := decide (PySem.W.findIn K (.ref A) "__class__" = some (some (.builtin "object.__class__"))) && decide (PySem.W.specialIn K (.builtin "object.__class__") "__get__" = some (some (.builtin "getset_descriptor.__get__"))) &&
  decide (PySem.W.takesIn K (.builtin "object.__class__") = some true) && decide (PySem.W.mroIn K A (.type "object") = some true)
def ikB (K : PySem.W.Frag) (C : Addr) : Bool := [0, 1, 2, 3, 4, 5, 6].all fun t => decide (PySem.W.kitOne K (.type (kindN t)) (.ref C) = some false)
def cmG (K : PySem.W.Frag) (C : Addr) (m : Str) : Addr := match PySem.W.recIn K (atX K C m) "classmethod" with
  | some (.ref g :: _) => g
  | _ => 0
def cmB (K : PySem.W.Frag) (C : Addr) (m : Str) : Bool := PySem.W.readsIn K C (.type "type") && He.eqO (PySem.W.specialIn K (.ref C) "__getattribute__") (some (some (.builtin "type.__getattribute__"))) && (match PySem.W.findCls K (.ref C) (.type "type") m with
  | some (.get (.builtin s) (.ref p) .none (.ref C')) => decide (s = "classmethod.__get__") && (p == atX K C m) && (C' == C)
  | _ => false) && (match PySem.W.recIn K (atX K C m) "classmethod" with
  | some (.ref _ :: _) => true
  | _ => false) && PySem.W.fnIn K (cmG K C m)
def iskB (K : PySem.W.Frag) (A : Addr) : Bool := isB.sclT K A && [0, 1, 2, 3, 4, 5].all fun t => decide (PySem.W.kitOne K (.ref A) (.type (kindN t)) = some false)
/-- tables, by a list -/
def tqL (l : List (Addr × Str)) : Addr → Option Str := fun P => l.lookup P
/-! ### the run of the top, in parts (each part runs it anew: less memory) -/
noncomputable def wq (p : Program) (M : Nat) (w : World) : Option (Shared × PySem.W.SharedT) := HandSHeadRun.wholeF (fun p => HandSHeadRun.stepQ (HandSHeadRun.denQ HandSHeadRun.tabQ) p w) HandSHeadRun.fenceQ M p
def TstY.fr (t : TstY) (x : Shared × PySem.W.SharedT) : PySem.W.Frag := He.frG (HandSHeadRun.getT x.2) t.ads
def partT (t : TstY) (n m : Nat) (x : Shared × PySem.W.SharedT) : Bool := (fun K => ((t.ts.drop n).take m).all fun f => f K) (t.fr x)
def partD (t : TstY) (x : Shared × PySem.W.SharedT) : (Bool × List He.FnW) := (fun K => (t.ds.all (okX K), t.ds.map (seeD K))) (t.fr x)
def partB (t : TstY) (x : Shared × PySem.W.SharedT) : Bool := (fun g K => t.tb.all fun f => isTab (g (tbX K (f K))) && (K.lookup (tbX K (f K))).isNone && PySem.W.codeHdIn K (cdX K (f K)) (tbX K (f K))) (HandSHeadRun.getT x.2) (t.fr x)
theorem map_one {α β γ : Type} {o : Option α} {f : α → β} {g : α → γ} {b : β} {c : γ} (h : o.map (fun x => (f x, g x)) = some (b, c)) : o.map f = some b ∧ o.map g = some c := by
  cases o with
  | none => cases h
  | some x =>
    have e : (f x, g x) = (b, c) := Option.some.inj h
    exact ⟨congrArg some (Prod.mk.inj e).1, congrArg some (Prod.mk.inj e).2⟩
theorem run_of {r : PySem.W.OpenRow} {q : Program} {t : TstY} {M : Nat} {loose : List PySem.Str} {w : World} (n : Nat)
    (h1 : (wq r.prog M w).map (fun x => (HandSHeadRun.looksF r.prog x.1.heap x.2.abs, HandSHeadRun.seenQ q loose (importedModules r.prog.main.body) (fun s => PySem.W.xlAt q [] s && PySem.W.recOk r.toRowW.records s) x.2.abs)) = some (true, PySem.W.openGood q loose))
    (h2 : (wq r.prog M w).map (partT t 0 n) = some true) (h3 : (wq r.prog M w).map (partT t n t.ts.length) = some true)
    (h4 : (wq r.prog M w).map (fun x => (partD t x, partB t x)) = some ((true, t.ds.map DfX.due), true)) : HandSHeadRun.RunEqI r q t.hook t.ob M loose w := by
  show (wq r.prog M w).map (fun x => (HandSHeadRun.looksF r.prog x.1.heap x.2.abs, HandSHeadRun.seenQ q loose (importedModules r.prog.main.body) (fun s => PySem.W.xlAt q [] s && PySem.W.recOk r.toRowW.records s) x.2.abs, t.ob x.2)) = some (true, PySem.W.openGood q loose, (t.x.due, true))
  obtain ⟨x, e, e1⟩ := Option.map_eq_some_iff.mp h1
  rw [e] at h2 h3 h4 ⊢
  have a2 : partT t 0 n x = true := Option.some.inj h2
  have a3 : partT t n t.ts.length x = true := Option.some.inj h3
  have a4 : (partD t x, partB t x) = ((true, t.ds.map DfX.due), true) := Option.some.inj h4
  obtain ⟨b1, b2⟩ := Prod.mk.inj e1
  obtain ⟨d1, d2⟩ := Prod.mk.inj a4
  have all : (t.ts.all fun f => f (t.fr x)) = true := by
    have e3 : t.ts = t.ts.take n ++ t.ts.drop n := (List.take_append_drop n t.ts).symm
    rw [e3, List.all_append]
    have z2 : ((t.ts.take n).all fun f => f (t.fr x)) = true := by
      have := a2
      unfold partT at this
      simpa using this
    have z3 : ((t.ts.drop n).all fun f => f (t.fr x)) = true := by
      have h := a3
      unfold partT at h
      rw [List.take_of_length_le (by rw [List.length_drop]; omega)] at h
      exact h
    rw [z2, z3]
    rfl
  have o1 : t.ob x.2 = (t.x.due, true) := by
    have g1 : t.ds.all (okX (t.fr x)) = true := (Prod.mk.inj d1).1
    have g2 : t.ds.map (seeD (t.fr x)) = t.ds.map DfX.due := (Prod.mk.inj d1).2
    show ((((t.ts.all fun f => f (t.fr x)) && t.ds.all (okX (t.fr x))), t.ds.map (seeD (t.fr x))), partB t x) = (t.x.due, true)
    rw [all, g1, g2, d2]
    rfl
  exact congrArg some (Prod.ext b1 (Prod.ext b2 o1))
end Dx

namespace K70
open PySem PySem.Spec PyProof.Rows L2 Dx
def top (i : Nat) : Stmt := PySem.Challenge.pw_lawseries_k70_errors_of_ghosts.main.body.getD i (.Pass ⟨0, 0, 0, 0⟩)
def inC (s : Stmt) (i : Nat) : Stmt := match s with
  | .ClassDef _ _ _ b _ _ _ _ _ _ _ => b.getD i (.Pass ⟨0, 0, 0, 0⟩)
  | _ => .Pass ⟨0, 0, 0, 0⟩
abbrev s_powers_in : Stmt := top 30
abbrev s_divisors_in : Stmt := top 35
abbrev s_moebius_in : Stmt := top 36
abbrev s_test_total : Stmt := top 65
abbrev s_counts_in : Stmt := top 70
abbrev s_is_plain : Stmt := top 16
abbrev s_is_short : Stmt := top 17
abbrev s_are_numbers : Stmt := top 62
abbrev s_require_numbers : Stmt := top 63
abbrev s_fault_in : Stmt := top 66
abbrev s_require_ghosts : Stmt := top 71
abbrev s_counts_of : Stmt := top 72
abbrev s_is_integer : Stmt := top 29
abbrev s_require_count : Stmt := top 32
abbrev s_is_prime : Stmt := top 31
abbrev s_require_prime : Stmt := top 34
abbrev s_line_of : Stmt := top 38
abbrev s_line_of_pairs : Stmt := top 41
abbrev s_line_exp : Stmt := top 42
abbrev s_Made_init : Stmt := inC (top 50) 1
abbrev s_Terms_init : Stmt := inC (top 18) 1
abbrev s_terms_of : Stmt := top 19
abbrev s_told_terms : Stmt := top 20
abbrev s_Ratio_init : Stmt := inC (top 21) 1
abbrev s_ratio_of : Stmt := top 22
abbrev s_require_modulus : Stmt := top 46
abbrev s_is_number : Stmt := top 47
abbrev s_number_pair : Stmt := top 48
abbrev s_is_number_of : Stmt := top 49
abbrev s_line_told : Stmt := top 51
abbrev s_Row_init : Stmt := inC (top 54) 1
abbrev s_row_with : Stmt := top 56
abbrev s_row_in : Stmt := top 68
abbrev s_artin_row : Stmt := top 77
abbrev s__law_dice : Stmt := top 84
abbrev s__law_met : Stmt := top 87
abbrev s_ghost_fault : Stmt := top 67
abbrev s_ghost_row : Stmt := top 69
abbrev s__law_roll : Stmt := top 85
abbrev s__law_pick : Stmt := top 86
abbrev s_Ratio___eq__ : Stmt := inC (top 21) 12
abbrev s_Row___eq__ : Stmt := inC (top 54) 23
abbrev s_power_of : Stmt := top 64
abbrev s_coordinate_total : Stmt := top 73
abbrev s_ghosts_in : Stmt := top 74
abbrev s_told_coordinates : Stmt := top 79
abbrev s_Witt_init : Stmt := inC (top 80) 1
abbrev s_require_integer : Stmt := top 33
abbrev s_Witt_single : Stmt := inC (top 80) 2
abbrev s_coordinates_in : Stmt := top 75
abbrev s_Told_init : Stmt := inC (top 78) 1
abbrev s_Witt_of_ghosts : Stmt := inC (top 80) 3
abbrev s_require_row : Stmt := top 57
abbrev s_ghosts_of_entries : Stmt := top 76
abbrev s_Row_degree : Stmt := inC (top 54) 4
abbrev s_Row_is_whole : Stmt := inC (top 54) 7
abbrev s_Witt_degree : Stmt := inC (top 80) 5
abbrev s_Witt_of_row : Stmt := inC (top 80) 4
abbrev s_Witt___eq__ : Stmt := inC (top 80) 19
abbrev s__law_made_right : Stmt := top 88
abbrev s_pair_of : Stmt := top 23
abbrev s_Ratio_plus : Stmt := inC (top 21) 6
abbrev s_Ratio_minus : Stmt := inC (top 21) 7
abbrev s_Ratio_times : Stmt := inC (top 21) 8
abbrev s_line_sum : Stmt := top 39
abbrev s_line_in : Stmt := top 55
abbrev s_require_like : Stmt := top 58
abbrev s_Row_plus : Stmt := inC (top 54) 10
abbrev s_Row_minus : Stmt := inC (top 54) 11
abbrev s_line_times : Stmt := top 40
abbrev s_Row_times : Stmt := inC (top 54) 12
abbrev s_Row_cut : Stmt := inC (top 54) 20
abbrev s_ghosts_told : Stmt := top 81
abbrev s_witt_made : Stmt := top 82
abbrev s_Witt_plus : Stmt := inC (top 80) 10
abbrev s_Witt_minus : Stmt := inC (top 80) 11
abbrev s_Witt_times : Stmt := inC (top 80) 12
abbrev s_Witt_moved : Stmt := inC (top 80) 14
abbrev s_Witt_taken : Stmt := inC (top 80) 15
abbrev s_Witt_cut : Stmt := inC (top 80) 16
abbrev s_Witt_rests : Stmt := inC (top 80) 17
abbrev s__law_used_right : Stmt := top 89
abbrev s_law : Stmt := top 90
abbrev sx_InvalidCount : Stmt := inC (top 11) 0
def tqK (K : PySem.W.Frag) : List (Addr × Str) := [(tbX K (He.ga K "_law_made_right"), "_law_made_right" ++ ".<locals>." ++ "<lambda>"), (tbX K (He.ga K "_law_used_right"), "_law_used_right" ++ ".<locals>." ++ "<lambda>"), (tbX K (He.ga K "law"), "law" ++ ".<locals>." ++ "<lambda>")]
def csK (K : PySem.W.Frag) : List (Addr × Addr) := [(cdX K (He.ga K "_law_made_right"), tbX K (He.ga K "_law_made_right")), (cdX K (He.ga K "_law_used_right"), tbX K (He.ga K "_law_used_right")), (cdX K (He.ga K "law"), tbX K (He.ga K "law")), (cdX K (atX K (He.ga K "Row") "__init__"), tbX K (atX K (He.ga K "Row") "__init__"))]
def tgK (K : PySem.W.Frag) : List Addr := [tbX K (atX K (He.ga K "Row") "__init__")]
def ads : List Addr := [3, 6, 4, 49, 59, 72, 84, 96, 108, 120, 132, 153, 174, 184, 191, 210, 221, 228, 338, 350, 357, 362, 369, 376, 383, 390, 397, 404, 411, 416, 423, 428, 433, 440, 445, 450, 457, 464, 471, 478, 497, 505, 512, 519, 721, 735, 743, 750, 757, 762, 769, 776, 781, 788, 795, 800, 807, 812, 819, 826, 831, 836, 843, 848, 855, 874, 884, 1037, 1049, 1056, 1063, 1070, 1077, 1084, 1091, 1098, 1105, 0, 48, 58, 71, 83, 95, 107, 119, 131, 152, 173, 183, 190, 209, 220, 227, 337, 349, 343, 356, 361, 368, 375, 382, 389, 396, 403, 410, 415, 422, 427, 432, 439, 444, 449, 456, 463, 470, 477, 496, 504, 511, 518, 720, 734, 742, 736, 749, 756, 761, 768, 775, 780, 787, 794, 799, 806, 811, 818, 825, 830, 835, 842, 847, 854, 873, 883, 1036, 1048, 1055, 1062, 1069, 1076, 1083, 1090, 1097, 1104, 43, 44, 45, 46, 47, 57, 60, 70, 82, 94, 106, 118, 130, 150, 151, 171, 172, 175, 178, 179, 180, 181, 182, 185, 186, 187, 188, 189, 199, 206, 207, 211, 212, 215, 216, 217, 218, 219, 222, 223, 224, 225, 226, 236, 244, 253, 262, 270, 278, 285, 292, 299, 306, 313, 320, 327, 334, 335, 339, 340, 344, 345, 346, 347, 348, 351, 352, 353, 354, 355, 358, 359, 360, 363, 364, 365, 366, 367, 370, 371, 372, 373, 374, 377, 378, 379, 380, 381, 384, 385, 386, 387, 388, 391, 392, 393, 394, 395, 398, 399, 400, 401, 402, 405, 406, 407, 408, 409, 412, 413, 414, 417, 418, 419, 420, 421, 424, 425, 426, 429, 430, 431, 434, 435, 436, 437, 438, 441, 442, 443, 446, 447, 448, 451, 452, 453, 454, 455, 458, 459, 460, 461, 462, 465, 466, 467, 468, 469, 472, 473, 474, 475, 476, 486, 493, 494, 498, 501, 502, 503, 506, 507, 508, 509, 510, 513, 514, 515, 516, 517, 527, 533, 543, 552, 560, 568, 576, 584, 591, 598, 605, 612, 619, 626, 633, 640, 647, 654, 661, 668, 675, 682, 689, 696, 703, 710, 717, 718, 722, 723, 724, 725, 726, 729, 730, 731, 732, 733, 737, 738, 739, 740, 741, 744, 745, 746, 747, 748, 751, 752, 753, 754, 755, 758, 759, 760, 763, 764, 765, 766, 767, 770, 771, 772, 773, 774, 777, 778, 779, 782, 783, 784, 785, 786, 789, 790, 791, 792, 793, 796, 797, 798, 801, 802, 803, 804, 805, 808, 809, 810, 813, 814, 815, 816, 817, 820, 821, 822, 823, 824, 827, 828, 829, 832, 833, 834, 837, 838, 839, 840, 841, 844, 845, 846, 849, 850, 851, 852, 853, 863, 870, 871, 875, 878, 879, 880, 881, 882, 892, 899, 906, 916, 926, 935, 943, 951, 959, 966, 971, 976, 981, 988, 995, 1002, 1009, 1014, 1021, 1028, 1033, 1034, 1038, 1039, 1040, 1043, 1044, 1045, 1046, 1047, 1050, 1051, 1052, 1053, 1054, 1057, 1058, 1059, 1060, 1061, 1064, 1065, 1066, 1067, 1068, 1071, 1072, 1073, 1074, 1075, 1078, 1079, 1080, 1081, 1082, 1085, 1087, 1088, 1089, 1092, 1094, 1095, 1096, 1099, 1101, 1102, 1103, 149, 138, 170, 159, 205, 243, 237, 251, 252, 261, 269, 277, 284, 291, 298, 305, 312, 319, 326, 333, 492, 532, 528, 541, 542, 551, 559, 567, 575, 583, 590, 597, 604, 611, 618, 625, 632, 639, 646, 653, 660, 667, 674, 681, 688, 695, 702, 709, 716, 869, 898, 904, 905, 914, 915, 924, 925, 934, 942, 950, 958, 965, 970, 975, 980, 987, 994, 1001, 1008, 1013, 1020, 1027, 1032, 144, 145, 146, 147, 148, 165, 166, 167, 168, 169, 200, 201, 202, 203, 204, 238, 239, 240, 241, 242, 250, 254, 260, 268, 276, 279, 280, 281, 282, 283, 286, 287, 288, 289, 290, 293, 294, 295, 296, 297, 300, 301, 302, 303, 304, 307, 308, 309, 310, 311, 314, 315, 316, 317, 318, 321, 322, 323, 324, 325, 328, 329, 330, 331, 332, 487, 488, 489, 490, 491, 529, 531, 540, 534, 544, 550, 558, 566, 574, 582, 585, 586, 587, 588, 589, 592, 593, 594, 595, 596, 599, 600, 601, 602, 603, 606, 607, 608, 609, 610, 613, 614, 615, 616, 617, 620, 621, 622, 623, 624, 627, 628, 629, 630, 631, 634, 635, 636, 637, 638, 641, 642, 643, 644, 645, 648, 649, 650, 651, 652, 655, 656, 657, 658, 659, 662, 663, 664, 665, 666, 669, 670, 671, 672, 673, 676, 677, 678, 679, 680, 683, 684, 685, 686, 687, 690, 691, 692, 693, 694, 697, 698, 699, 700, 701, 704, 705, 706, 707, 708, 711, 712, 713, 714, 715, 864, 865, 866, 867, 868, 893, 894, 895, 896, 897, 903, 907, 913, 917, 923, 927, 933, 941, 949, 957, 960, 961, 962, 963, 964, 967, 968, 969, 972, 973, 974, 977, 978, 979, 982, 983, 984, 985, 986, 989, 990, 991, 992, 993, 996, 997, 998, 999, 1000, 1003, 1004, 1005, 1006, 1007, 1010, 1011, 1012, 1015, 1016, 1017, 1018, 1019, 1022, 1023, 1024, 1025, 1026, 1029, 1030, 1031, 245, 246, 247, 248, 249, 255, 256, 257, 258, 259, 263, 264, 265, 266, 267, 271, 272, 273, 274, 275, 535, 536, 537, 538, 539, 545, 546, 547, 548, 549, 553, 554, 555, 556, 557, 561, 562, 563, 564, 565, 569, 570, 571, 572, 573, 577, 578, 579, 580, 581, 900, 901, 902, 908, 909, 910, 911, 912, 918, 919, 920, 921, 922, 928, 929, 930, 931, 932, 936, 937, 938, 939, 940, 944, 945, 946, 947, 948, 952, 953, 954, 955, 956, 2]
def tst : TstY := ⟨[fun K => (He.Fa.int "FAR" (1000000000000000000000000000000000000000000000000000000000000)).ok K,
   fun K => (He.Fa.int "MAX_FACTORED" (1000000000)).ok K,
   fun K => (He.Fa.int "MAX_GHOSTS" (24)).ok K,
   fun K => (He.Fa.int "MAX_ROW" (24)).ok K,
   fun K => (He.Fa.int "MOST_MODULUS_ghosts" (10000)).ok K,
   fun K => (He.Fa.int "MOST_MODULUS_rows" (10000)).ok K,
   fun K => (He.Fa.int "MOST_PRIME" (997)).ok K,
   fun K => (He.Fa.free "abs").ok K,
   fun K => (He.Fa.free "all").ok K,
   fun K => (He.Fa.free "bool").ok K,
   fun K => (He.Fa.free "enumerate").ok K,
   fun K => He.eqO (PySem.W.nsIn K mainGlobals "gcd") (some (some (.builtin "math.gcd"))),
   fun K => (He.Fa.free "int").ok K,
   fun K => (He.Fa.free "isinstance").ok K,
   fun K => (He.Fa.free "len").ok K,
   fun K => (He.Fa.free "list").ok K,
   fun K => (He.Fa.free "max").ok K,
   fun K => (He.Fa.free "min").ok K,
   fun K => (He.Fa.free "next").ok K,
   fun K => (He.Fa.free "range").ok K,
   fun K => (He.Fa.free "repr").ok K,
   fun K => (He.Fa.free "sorted").ok K,
   fun K => (He.Fa.free "sum").ok K,
   fun K => (He.Fa.free "tuple").ok K,
   fun K => (He.Fa.free "zip").ok K,
   fun K => cdB K (He.ga K "_law_made_right"),
   fun K => decide (tqL (tqK K) (tbX K (He.ga K "_law_made_right")) = some ("_law_made_right" ++ ".<locals>." ++ "<lambda>")),
   fun K => cdB K (He.ga K "_law_used_right"),
   fun K => decide (tqL (tqK K) (tbX K (He.ga K "_law_used_right")) = some ("_law_used_right" ++ ".<locals>." ++ "<lambda>")),
   fun K => cdB K (He.ga K "law"),
   fun K => decide (tqL (tqK K) (tbX K (He.ga K "law")) = some ("law" ++ ".<locals>." ++ "<lambda>")),
   fun K => cdB K (atX K (He.ga K "Row") "__init__"),
   fun K => decide (tqL (tqK K) (tbX K (atX K (He.ga K "Row") "__init__")) = none),
   fun K => (He.Fa.glo "powers_in").ok K,
   fun K => (He.Fa.glo "divisors_in").ok K,
   fun K => (He.Fa.glo "moebius_in").ok K,
   fun K => (He.Fa.glo "test_total").ok K,
   fun K => iskB K (He.ga K "Terms"),
   fun K => sclB K (He.ga K "Terms"),
   fun K => iskB K (He.ga K "Ratio"),
   fun K => sclB K (He.ga K "Ratio"),
   fun K => iskB K (He.ga K "Made"),
   fun K => sclB K (He.ga K "Made"),
   fun K => iskB K (He.ga K "Row"),
   fun K => sclB K (He.ga K "Row"),
   fun K => iskB K (He.ga K "Told"),
   fun K => sclB K (He.ga K "Told"),
   fun K => iskB K (He.ga K "Witt"),
   fun K => sclB K (He.ga K "Witt"),
   fun K => (He.Fa.glo "is_plain").ok K,
   fun K => (He.Fa.glo "is_short").ok K,
   fun K => (He.Fa.glo "are_numbers").ok K,
   fun K => (He.Fa.glo "InvalidGhosts").ok K,
   fun K => ex0B K (He.ga K "InvalidGhosts") "ValueError.__new__" [.type "ValueError", .type "Exception", .type "BaseException", .type "object"],
   fun K => (He.Fa.glo "fault_in").ok K,
   fun K => (He.Fa.glo "require_numbers").ok K,
   fun K => (He.Fa.glo "InvalidOperation").ok K,
   fun K => ex0B K (He.ga K "InvalidOperation") "ValueError.__new__" [.type "ValueError", .type "Exception", .type "BaseException", .type "object"],
   fun K => (He.Fa.glo "counts_in").ok K,
   fun K => (He.Fa.glo "require_ghosts").ok K,
   fun K => (He.Fa.glo "is_integer").ok K,
   fun K => (He.Fa.glo "InvalidCount").ok K,
   fun K => (He.Fa.free "super").ok K,
   fun K => xinB K (PySem.Challenge.pw_lawseries_k70_errors_of_ghosts).main.file (He.ga K "InvalidCount") "value" "InvalidCount.__init__"  "IndexError" "IndexError.__new__" "IndexError.__init__" [.type "IndexError", .type "LookupError", .type "Exception", .type "BaseException", .type "object"],
   fun K => xifB K (PySem.Challenge.pw_lawseries_k70_errors_of_ghosts).main.file (He.ga K "InvalidCount"),
   fun K => (He.Fa.glo "is_prime").ok K,
   fun K => (He.Fa.glo "InvalidPrime").ok K,
   fun K => ex0B K (He.ga K "InvalidPrime") "ValueError.__new__" [.type "ValueError", .type "Exception", .type "BaseException", .type "object"],
   fun K => (He.Fa.glo "line_of").ok K,
   fun K => (He.Fa.glo "line_of_pairs").ok K,
   fun K => slB K (He.ga K "Made") "own_line" 0,
   fun K => slB K (He.ga K "Terms") "own_bottom" 0,
   fun K => slB K (He.ga K "Ratio") "own_bottom" 0,
   fun K => slB K (He.ga K "Row") "own_bottom" 0,
   fun K => slB K (He.ga K "Terms") "own_top" 1,
   fun K => slB K (He.ga K "Ratio") "own_top" 1,
   fun K => mkB K (He.ga K "Terms"),
   fun K => (He.Fa.glo "Terms").ok K,
   fun K => (He.Fa.glo "terms_of").ok K,
   fun K => ikB K (He.ga K "Terms"),
   fun K => isB K (He.ga K "Terms") (He.ga K "Terms") true,
   fun K => isB K (He.ga K "Ratio") (He.ga K "Terms") false,
   fun K => isB K (He.ga K "Made") (He.ga K "Terms") false,
   fun K => isB K (He.ga K "Row") (He.ga K "Terms") false,
   fun K => isB K (He.ga K "Told") (He.ga K "Terms") false,
   fun K => isB K (He.ga K "Witt") (He.ga K "Terms") false,
   fun K => (He.Fa.glo "told_terms").ok K,
   fun K => mkB K (He.ga K "Ratio"),
   fun K => (He.Fa.glo "Ratio").ok K,
   fun K => (He.Fa.glo "InvalidModulus").ok K,
   fun K => ex0B K (He.ga K "InvalidModulus") "ValueError.__new__" [.type "ValueError", .type "Exception", .type "BaseException", .type "object"],
   fun K => ikB K (He.ga K "Ratio"),
   fun K => isB K (He.ga K "Terms") (He.ga K "Ratio") false,
   fun K => isB K (He.ga K "Ratio") (He.ga K "Ratio") true,
   fun K => isB K (He.ga K "Made") (He.ga K "Ratio") false,
   fun K => isB K (He.ga K "Row") (He.ga K "Ratio") false,
   fun K => isB K (He.ga K "Told") (He.ga K "Ratio") false,
   fun K => isB K (He.ga K "Witt") (He.ga K "Ratio") false,
   fun K => (He.Fa.glo "is_number").ok K,
   fun K => (He.Fa.glo "is_number_of").ok K,
   fun K => (He.Fa.glo "number_pair").ok K,
   fun K => (He.Fa.glo "require_modulus").ok K,
   fun K => (He.Fa.glo "Made").ok K,
   fun K => ikB K (He.ga K "Made"),
   fun K => isB K (He.ga K "Terms") (He.ga K "Made") false,
   fun K => isB K (He.ga K "Ratio") (He.ga K "Made") false,
   fun K => isB K (He.ga K "Made") (He.ga K "Made") true,
   fun K => isB K (He.ga K "Row") (He.ga K "Made") false,
   fun K => isB K (He.ga K "Told") (He.ga K "Made") false,
   fun K => isB K (He.ga K "Witt") (He.ga K "Made") false,
   fun K => (He.Fa.glo "InvalidRow").ok K,
   fun K => ex0B K (He.ga K "InvalidRow") "ValueError.__new__" [.type "ValueError", .type "Exception", .type "BaseException", .type "object"],
   fun K => (He.Fa.glo "line_told").ok K,
   fun K => (He.Fa.glo "ratio_of").ok K,
   fun K => slB K (He.ga K "Row") "own_entries" 1,
   fun K => slB K (He.ga K "Row") "own_modulus" 2,
   fun K => slB K (He.ga K "Row") "own_order" 3,
   fun K => slB K (He.ga K "Row") "own_tops" 4,
   fun K => mkB K (He.ga K "Row"),
   fun K => (He.Fa.glo "Row").ok K,
   fun K => mkB K (He.ga K "Made"),
   fun K => (He.Fa.glo "line_exp").ok K,
   fun K => (He.Fa.glo "row_with").ok K,
   fun K => (He.Fa.glo "require_count").ok K,
   fun K => (He.Fa.glo "require_prime").ok K,
   fun K => (He.Fa.glo "row_in").ok K,
   fun K => xfB K (He.ga K "InvalidCount"),
   fun K => decide (PySem.W.findIn K (.ref (He.ga K "InvalidCount")) "value" = some none),
   fun K => decide (PySem.W.exmOne K (.ref (He.ga K "InvalidRatio")) (.ref (He.ga K "InvalidModulus")) = some false),
   fun K => decide (PySem.W.exmOne K (.ref (He.ga K "InvalidRatio")) (.ref (He.ga K "InvalidRow")) = some false),
   fun K => decide (PySem.W.exmOne K (.ref (He.ga K "InvalidRatio")) (.ref (He.ga K "InvalidPrime")) = some false),
   fun K => decide (PySem.W.exmOne K (.ref (He.ga K "InvalidRatio")) (.ref (He.ga K "InvalidGhosts")) = some false),
   fun K => decide (PySem.W.exmOne K (.ref (He.ga K "InvalidRatio")) (.ref (He.ga K "InvalidOperation")) = some false),
   fun K => decide (PySem.W.exmOne K (.ref (He.ga K "InvalidRatio")) (.ref (He.ga K "InvalidCount")) = some false),
   fun K => decide (PySem.W.exmOne K (.ref (He.ga K "InvalidModulus")) (.ref (He.ga K "InvalidModulus")) = some true),
   fun K => decide (PySem.W.exmOne K (.ref (He.ga K "InvalidModulus")) (.ref (He.ga K "InvalidRow")) = some false),
   fun K => decide (PySem.W.exmOne K (.ref (He.ga K "InvalidModulus")) (.ref (He.ga K "InvalidPrime")) = some false),
   fun K => decide (PySem.W.exmOne K (.ref (He.ga K "InvalidModulus")) (.ref (He.ga K "InvalidGhosts")) = some false),
   fun K => decide (PySem.W.exmOne K (.ref (He.ga K "InvalidModulus")) (.ref (He.ga K "InvalidOperation")) = some false),
   fun K => decide (PySem.W.exmOne K (.ref (He.ga K "InvalidModulus")) (.ref (He.ga K "InvalidCount")) = some false),
   fun K => decide (PySem.W.exmOne K (.ref (He.ga K "InvalidRow")) (.ref (He.ga K "InvalidModulus")) = some false),
   fun K => decide (PySem.W.exmOne K (.ref (He.ga K "InvalidRow")) (.ref (He.ga K "InvalidRow")) = some true),
   fun K => decide (PySem.W.exmOne K (.ref (He.ga K "InvalidRow")) (.ref (He.ga K "InvalidPrime")) = some false),
   fun K => decide (PySem.W.exmOne K (.ref (He.ga K "InvalidRow")) (.ref (He.ga K "InvalidGhosts")) = some false),
   fun K => decide (PySem.W.exmOne K (.ref (He.ga K "InvalidRow")) (.ref (He.ga K "InvalidOperation")) = some false),
   fun K => decide (PySem.W.exmOne K (.ref (He.ga K "InvalidRow")) (.ref (He.ga K "InvalidCount")) = some false),
   fun K => decide (PySem.W.exmOne K (.ref (He.ga K "InvalidPrime")) (.ref (He.ga K "InvalidModulus")) = some false),
   fun K => decide (PySem.W.exmOne K (.ref (He.ga K "InvalidPrime")) (.ref (He.ga K "InvalidRow")) = some false),
   fun K => decide (PySem.W.exmOne K (.ref (He.ga K "InvalidPrime")) (.ref (He.ga K "InvalidPrime")) = some true),
   fun K => decide (PySem.W.exmOne K (.ref (He.ga K "InvalidPrime")) (.ref (He.ga K "InvalidGhosts")) = some false),
   fun K => decide (PySem.W.exmOne K (.ref (He.ga K "InvalidPrime")) (.ref (He.ga K "InvalidOperation")) = some false),
   fun K => decide (PySem.W.exmOne K (.ref (He.ga K "InvalidPrime")) (.ref (He.ga K "InvalidCount")) = some false),
   fun K => decide (PySem.W.exmOne K (.ref (He.ga K "InvalidGhosts")) (.ref (He.ga K "InvalidModulus")) = some false),
   fun K => decide (PySem.W.exmOne K (.ref (He.ga K "InvalidGhosts")) (.ref (He.ga K "InvalidRow")) = some false),
   fun K => decide (PySem.W.exmOne K (.ref (He.ga K "InvalidGhosts")) (.ref (He.ga K "InvalidPrime")) = some false),
   fun K => decide (PySem.W.exmOne K (.ref (He.ga K "InvalidGhosts")) (.ref (He.ga K "InvalidGhosts")) = some true),
   fun K => decide (PySem.W.exmOne K (.ref (He.ga K "InvalidGhosts")) (.ref (He.ga K "InvalidOperation")) = some false),
   fun K => decide (PySem.W.exmOne K (.ref (He.ga K "InvalidGhosts")) (.ref (He.ga K "InvalidCount")) = some false),
   fun K => decide (PySem.W.exmOne K (.ref (He.ga K "InvalidOperation")) (.ref (He.ga K "InvalidModulus")) = some false),
   fun K => decide (PySem.W.exmOne K (.ref (He.ga K "InvalidOperation")) (.ref (He.ga K "InvalidRow")) = some false),
   fun K => decide (PySem.W.exmOne K (.ref (He.ga K "InvalidOperation")) (.ref (He.ga K "InvalidPrime")) = some false),
   fun K => decide (PySem.W.exmOne K (.ref (He.ga K "InvalidOperation")) (.ref (He.ga K "InvalidGhosts")) = some false),
   fun K => decide (PySem.W.exmOne K (.ref (He.ga K "InvalidOperation")) (.ref (He.ga K "InvalidOperation")) = some true),
   fun K => decide (PySem.W.exmOne K (.ref (He.ga K "InvalidOperation")) (.ref (He.ga K "InvalidCount")) = some false),
   fun K => decide (PySem.W.exmOne K (.ref (He.ga K "InvalidCount")) (.ref (He.ga K "InvalidModulus")) = some false),
   fun K => decide (PySem.W.exmOne K (.ref (He.ga K "InvalidCount")) (.ref (He.ga K "InvalidRow")) = some false),
   fun K => decide (PySem.W.exmOne K (.ref (He.ga K "InvalidCount")) (.ref (He.ga K "InvalidPrime")) = some false),
   fun K => decide (PySem.W.exmOne K (.ref (He.ga K "InvalidCount")) (.ref (He.ga K "InvalidGhosts")) = some false),
   fun K => decide (PySem.W.exmOne K (.ref (He.ga K "InvalidCount")) (.ref (He.ga K "InvalidOperation")) = some false),
   fun K => decide (PySem.W.exmOne K (.ref (He.ga K "InvalidCount")) (.ref (He.ga K "InvalidCount")) = some true),
   fun K => (He.Fa.glo "_law_roll").ok K,
   fun K => ikB K (He.ga K "Row"),
   fun K => isB K (He.ga K "Terms") (He.ga K "Row") false,
   fun K => isB K (He.ga K "Ratio") (He.ga K "Row") false,
   fun K => isB K (He.ga K "Made") (He.ga K "Row") false,
   fun K => isB K (He.ga K "Row") (He.ga K "Row") true,
   fun K => isB K (He.ga K "Told") (He.ga K "Row") false,
   fun K => isB K (He.ga K "Witt") (He.ga K "Row") false,
   fun K => (He.Fa.glo "power_of").ok K,
   fun K => (He.Fa.glo "coordinate_total").ok K,
   fun K => (He.Fa.glo "Told").ok K,
   fun K => ikB K (He.ga K "Told"),
   fun K => isB K (He.ga K "Terms") (He.ga K "Told") false,
   fun K => isB K (He.ga K "Ratio") (He.ga K "Told") false,
   fun K => isB K (He.ga K "Made") (He.ga K "Told") false,
   fun K => isB K (He.ga K "Row") (He.ga K "Told") false,
   fun K => isB K (He.ga K "Told") (He.ga K "Told") true,
   fun K => isB K (He.ga K "Witt") (He.ga K "Told") false,
   fun K => slB K (He.ga K "Told") "own_numbers" 0,
   fun K => (He.Fa.glo "ghosts_in").ok K,
   fun K => (He.Fa.glo "told_coordinates").ok K,
   fun K => slB K (He.ga K "Witt") "own_coordinates" 0,
   fun K => slB K (He.ga K "Witt") "own_counts" 1,
   fun K => slB K (He.ga K "Witt") "own_ghosts" 2,
   fun K => (He.Fa.glo "require_integer").ok K,
   fun K => mkB K (He.ga K "Witt"),
   fun K => (He.Fa.glo "coordinates_in").ok K,
   fun K => mkB K (He.ga K "Told"),
   fun K => (He.Fa.glo "ghosts_of_entries").ok K,
   fun K => (He.Fa.glo "require_row").ok K,
   fun K => pvB K (He.ga K "Row") "degree",
   fun K => pvB K (He.ga K "Witt") "degree",
   fun K => pvB K (He.ga K "Row") "is_whole",
   fun K => (He.Fa.glo "Witt").ok K,
   fun K => ikB K (He.ga K "Witt"),
   fun K => isB K (He.ga K "Terms") (He.ga K "Witt") false,
   fun K => isB K (He.ga K "Ratio") (He.ga K "Witt") false,
   fun K => isB K (He.ga K "Made") (He.ga K "Witt") false,
   fun K => isB K (He.ga K "Row") (He.ga K "Witt") false,
   fun K => isB K (He.ga K "Told") (He.ga K "Witt") false,
   fun K => isB K (He.ga K "Witt") (He.ga K "Witt") true,
   fun K => cmB K (He.ga K "Witt") "of_ghosts",
   fun K => cmB K (He.ga K "Witt") "of_row",
   fun K => cmB K (He.ga K "Witt") "single",
   fun K => (He.Fa.glo "_law_pick").ok K,
   fun K => (He.Fa.glo "artin_row").ok K,
   fun K => (He.Fa.glo "counts_of").ok K,
   fun K => (He.Fa.glo "ghost_fault").ok K,
   fun K => (He.Fa.glo "ghost_row").ok K,
   fun K => He.eqO (PySem.W.findIn K (.ref (He.ga K "Ratio")) "__eq__") (some (some (.ref (atX K (He.ga K "Ratio") "__eq__")))),
   fun K => PySem.W.isFn K (.ref (atX K (He.ga K "Ratio") "__eq__")),
   fun K => decide (PySem.W.mroIn K (He.ga K "Ratio") (.type "object") = some true),
   fun K => He.eqO (PySem.W.findIn K (.ref (He.ga K "Ratio")) "__ne__") (some (some (.builtin "object.__ne__"))),
   fun K => PySem.W.notFirst K (He.ga K "Ratio") (.ref (He.ga K "Terms")),
   fun K => PySem.W.notFirst K (He.ga K "Ratio") (.ref (He.ga K "Ratio")),
   fun K => PySem.W.notFirst K (He.ga K "Ratio") (.ref (He.ga K "Made")),
   fun K => PySem.W.notFirst K (He.ga K "Ratio") (.ref (He.ga K "Row")),
   fun K => PySem.W.notFirst K (He.ga K "Ratio") (.ref (He.ga K "Told")),
   fun K => PySem.W.notFirst K (He.ga K "Ratio") (.ref (He.ga K "Witt")),
   fun K => He.eqO (PySem.W.findIn K (.ref (He.ga K "Row")) "__eq__") (some (some (.ref (atX K (He.ga K "Row") "__eq__")))),
   fun K => PySem.W.isFn K (.ref (atX K (He.ga K "Row") "__eq__")),
   fun K => decide (PySem.W.mroIn K (He.ga K "Row") (.type "object") = some true),
   fun K => He.eqO (PySem.W.findIn K (.ref (He.ga K "Row")) "__ne__") (some (some (.builtin "object.__ne__"))),
   fun K => PySem.W.notFirst K (He.ga K "Row") (.ref (He.ga K "Terms")),
   fun K => PySem.W.notFirst K (He.ga K "Row") (.ref (He.ga K "Ratio")),
   fun K => PySem.W.notFirst K (He.ga K "Row") (.ref (He.ga K "Made")),
   fun K => PySem.W.notFirst K (He.ga K "Row") (.ref (He.ga K "Row")),
   fun K => PySem.W.notFirst K (He.ga K "Row") (.ref (He.ga K "Told")),
   fun K => PySem.W.notFirst K (He.ga K "Row") (.ref (He.ga K "Witt")),
   fun K => He.eqO (PySem.W.findIn K (.ref (He.ga K "Witt")) "__eq__") (some (some (.ref (atX K (He.ga K "Witt") "__eq__")))),
   fun K => PySem.W.isFn K (.ref (atX K (He.ga K "Witt") "__eq__")),
   fun K => decide (PySem.W.mroIn K (He.ga K "Witt") (.type "object") = some true),
   fun K => He.eqO (PySem.W.findIn K (.ref (He.ga K "Witt")) "__ne__") (some (some (.builtin "object.__ne__"))),
   fun K => PySem.W.notFirst K (He.ga K "Witt") (.ref (He.ga K "Terms")),
   fun K => PySem.W.notFirst K (He.ga K "Witt") (.ref (He.ga K "Ratio")),
   fun K => PySem.W.notFirst K (He.ga K "Witt") (.ref (He.ga K "Made")),
   fun K => PySem.W.notFirst K (He.ga K "Witt") (.ref (He.ga K "Row")),
   fun K => PySem.W.notFirst K (He.ga K "Witt") (.ref (He.ga K "Told")),
   fun K => PySem.W.notFirst K (He.ga K "Witt") (.ref (He.ga K "Witt")),
   fun K => (He.Fa.glo "_law_met").ok K,
   fun K => (He.Fa.glo "InvalidRatio").ok K,
   fun K => ex0B K (He.ga K "InvalidRatio") "ValueError.__new__" [.type "ValueError", .type "Exception", .type "BaseException", .type "object"],
   fun K => (He.Fa.glo "pair_of").ok K,
   fun K => (He.Fa.glo "line_in").ok K,
   fun K => (He.Fa.glo "line_sum").ok K,
   fun K => (He.Fa.glo "require_like").ok K,
   fun K => (He.Fa.glo "line_times").ok K,
   fun K => (He.Fa.glo "ghosts_told").ok K,
   fun K => (He.Fa.glo "witt_made").ok K,
   fun K => meB K (He.ga K "Row") "cut",
   fun K => meB K (He.ga K "Witt") "cut",
   fun K => meB K (He.ga K "Ratio") "minus",
   fun K => meB K (He.ga K "Row") "minus",
   fun K => meB K (He.ga K "Witt") "minus",
   fun K => meB K (He.ga K "Witt") "moved",
   fun K => meB K (He.ga K "Ratio") "plus",
   fun K => meB K (He.ga K "Row") "plus",
   fun K => meB K (He.ga K "Witt") "plus",
   fun K => meB K (He.ga K "Witt") "rests",
   fun K => meB K (He.ga K "Witt") "taken",
   fun K => meB K (He.ga K "Ratio") "times",
   fun K => meB K (He.ga K "Row") "times",
   fun K => meB K (He.ga K "Witt") "times",
   fun K => (He.Fa.glo "_law_dice").ok K,
   fun K => (He.Fa.glo "_law_made_right").ok K,
   fun K => (He.Fa.glo "_law_used_right").ok K,
   fun K => (He.Fa.glo "law").ok K],
  [⟨fun K => He.ga K "powers_in", "powers_in", "powers_in", s_powers_in, false, [], []⟩,
   ⟨fun K => He.ga K "divisors_in", "divisors_in", "divisors_in", s_divisors_in, false, [], []⟩,
   ⟨fun K => He.ga K "moebius_in", "moebius_in", "moebius_in", s_moebius_in, false, [], []⟩,
   ⟨fun K => He.ga K "test_total", "test_total", "test_total", s_test_total, false, [], []⟩,
   ⟨fun K => He.ga K "counts_in", "counts_in", "counts_in", s_counts_in, false, [], []⟩,
   ⟨fun K => He.ga K "is_plain", "is_plain", "is_plain", s_is_plain, false, [], []⟩,
   ⟨fun K => He.ga K "is_short", "is_short", "is_short", s_is_short, false, [], []⟩,
   ⟨fun K => He.ga K "are_numbers", "are_numbers", "are_numbers", s_are_numbers, false, [], []⟩,
   ⟨fun K => He.ga K "require_numbers", "require_numbers", "require_numbers", s_require_numbers, false, [], []⟩,
   ⟨fun K => He.ga K "fault_in", "fault_in", "fault_in", s_fault_in, false, [], []⟩,
   ⟨fun K => He.ga K "require_ghosts", "require_ghosts", "require_ghosts", s_require_ghosts, false, [], []⟩,
   ⟨fun K => He.ga K "counts_of", "counts_of", "counts_of", s_counts_of, false, [], []⟩,
   ⟨fun K => He.ga K "is_integer", "is_integer", "is_integer", s_is_integer, false, [], []⟩,
   ⟨fun K => He.ga K "require_count", "require_count", "require_count", s_require_count, false, [], []⟩,
   ⟨fun K => He.ga K "is_prime", "is_prime", "is_prime", s_is_prime, false, [], []⟩,
   ⟨fun K => He.ga K "require_prime", "require_prime", "require_prime", s_require_prime, false, [], []⟩,
   ⟨fun K => He.ga K "line_of", "line_of", "line_of", s_line_of, false, [], []⟩,
   ⟨fun K => He.ga K "line_of_pairs", "line_of_pairs", "line_of_pairs", s_line_of_pairs, false, [], []⟩,
   ⟨fun K => He.ga K "line_exp", "line_exp", "line_exp", s_line_exp, false, [], []⟩,
   ⟨fun K => atX K (He.ga K "Made") "__init__", "__init__", "Made.__init__", s_Made_init, false, [], []⟩,
   ⟨fun K => atX K (He.ga K "Terms") "__init__", "__init__", "Terms.__init__", s_Terms_init, false, [], []⟩,
   ⟨fun K => He.ga K "terms_of", "terms_of", "terms_of", s_terms_of, false, [], []⟩,
   ⟨fun K => He.ga K "told_terms", "told_terms", "told_terms", s_told_terms, false, [], []⟩,
   ⟨fun K => atX K (He.ga K "Ratio") "__init__", "__init__", "Ratio.__init__", s_Ratio_init, false, [(.int (1))], []⟩,
   ⟨fun K => He.ga K "ratio_of", "ratio_of", "ratio_of", s_ratio_of, false, [(.int (1))], []⟩,
   ⟨fun K => He.ga K "require_modulus", "require_modulus", "require_modulus", s_require_modulus, false, [], []⟩,
   ⟨fun K => He.ga K "is_number", "is_number", "is_number", s_is_number, false, [], []⟩,
   ⟨fun K => He.ga K "number_pair", "number_pair", "number_pair", s_number_pair, false, [], []⟩,
   ⟨fun K => He.ga K "is_number_of", "is_number_of", "is_number_of", s_is_number_of, false, [], []⟩,
   ⟨fun K => He.ga K "line_told", "line_told", "line_told", s_line_told, false, [], []⟩,
   ⟨fun K => atX K (He.ga K "Row") "__init__", "__init__", "Row.__init__", s_Row_init, false, [], [("modulus", (.int (0)))]⟩,
   ⟨fun K => He.ga K "row_with", "row_with", "row_with", s_row_with, false, [(.bl true)], []⟩,
   ⟨fun K => He.ga K "row_in", "row_in", "row_in", s_row_in, false, [], []⟩,
   ⟨fun K => He.ga K "artin_row", "artin_row", "artin_row", s_artin_row, false, [], []⟩,
   ⟨fun K => He.ga K "_law_dice", "_law_dice", "_law_dice", s__law_dice, false, [], []⟩,
   ⟨fun K => He.ga K "_law_met", "_law_met", "_law_met", s__law_met, false, [], []⟩,
   ⟨fun K => He.ga K "ghost_fault", "ghost_fault", "ghost_fault", s_ghost_fault, false, [], []⟩,
   ⟨fun K => He.ga K "ghost_row", "ghost_row", "ghost_row", s_ghost_row, false, [], []⟩,
   ⟨fun K => He.ga K "_law_roll", "_law_roll", "_law_roll", s__law_roll, false, [], []⟩,
   ⟨fun K => He.ga K "_law_pick", "_law_pick", "_law_pick", s__law_pick, false, [], []⟩,
   ⟨fun K => atX K (He.ga K "Ratio") "__eq__", "__eq__", "Ratio.__eq__", s_Ratio___eq__, false, [], []⟩,
   ⟨fun K => atX K (He.ga K "Row") "__eq__", "__eq__", "Row.__eq__", s_Row___eq__, false, [], []⟩,
   ⟨fun K => He.ga K "power_of", "power_of", "power_of", s_power_of, false, [], []⟩,
   ⟨fun K => He.ga K "coordinate_total", "coordinate_total", "coordinate_total", s_coordinate_total, false, [], []⟩,
   ⟨fun K => He.ga K "ghosts_in", "ghosts_in", "ghosts_in", s_ghosts_in, false, [], []⟩,
   ⟨fun K => He.ga K "told_coordinates", "told_coordinates", "told_coordinates", s_told_coordinates, false, [], []⟩,
   ⟨fun K => atX K (He.ga K "Witt") "__init__", "__init__", "Witt.__init__", s_Witt_init, false, [], []⟩,
   ⟨fun K => He.ga K "require_integer", "require_integer", "require_integer", s_require_integer, false, [], []⟩,
   ⟨fun K => cmG K (He.ga K "Witt") "single", "single", "Witt.single", s_Witt_single, false, [], []⟩,
   ⟨fun K => He.ga K "coordinates_in", "coordinates_in", "coordinates_in", s_coordinates_in, false, [], []⟩,
   ⟨fun K => atX K (He.ga K "Told") "__init__", "__init__", "Told.__init__", s_Told_init, false, [], []⟩,
   ⟨fun K => cmG K (He.ga K "Witt") "of_ghosts", "of_ghosts", "Witt.of_ghosts", s_Witt_of_ghosts, false, [], []⟩,
   ⟨fun K => He.ga K "require_row", "require_row", "require_row", s_require_row, false, [], []⟩,
   ⟨fun K => He.ga K "ghosts_of_entries", "ghosts_of_entries", "ghosts_of_entries", s_ghosts_of_entries, false, [], []⟩,
   ⟨fun K => prX K (He.ga K "Row") "degree", "degree", "Row.degree", s_Row_degree, false, [], []⟩,
   ⟨fun K => prX K (He.ga K "Row") "is_whole", "is_whole", "Row.is_whole", s_Row_is_whole, false, [], []⟩,
   ⟨fun K => prX K (He.ga K "Witt") "degree", "degree", "Witt.degree", s_Witt_degree, false, [], []⟩,
   ⟨fun K => cmG K (He.ga K "Witt") "of_row", "of_row", "Witt.of_row", s_Witt_of_row, false, [], []⟩,
   ⟨fun K => atX K (He.ga K "Witt") "__eq__", "__eq__", "Witt.__eq__", s_Witt___eq__, false, [], []⟩,
   ⟨fun K => He.ga K "_law_made_right", "_law_made_right", "_law_made_right", s__law_made_right, false, [], []⟩,
   ⟨fun K => He.ga K "pair_of", "pair_of", "pair_of", s_pair_of, false, [], []⟩,
   ⟨fun K => atX K (He.ga K "Ratio") "plus", "plus", "Ratio.plus", s_Ratio_plus, false, [], []⟩,
   ⟨fun K => atX K (He.ga K "Ratio") "minus", "minus", "Ratio.minus", s_Ratio_minus, false, [], []⟩,
   ⟨fun K => atX K (He.ga K "Ratio") "times", "times", "Ratio.times", s_Ratio_times, false, [], []⟩,
   ⟨fun K => He.ga K "line_sum", "line_sum", "line_sum", s_line_sum, false, [], []⟩,
   ⟨fun K => He.ga K "line_in", "line_in", "line_in", s_line_in, false, [], []⟩,
   ⟨fun K => He.ga K "require_like", "require_like", "require_like", s_require_like, false, [], []⟩,
   ⟨fun K => atX K (He.ga K "Row") "plus", "plus", "Row.plus", s_Row_plus, false, [], []⟩,
   ⟨fun K => atX K (He.ga K "Row") "minus", "minus", "Row.minus", s_Row_minus, false, [], []⟩,
   ⟨fun K => He.ga K "line_times", "line_times", "line_times", s_line_times, false, [], []⟩,
   ⟨fun K => atX K (He.ga K "Row") "times", "times", "Row.times", s_Row_times, false, [], []⟩,
   ⟨fun K => atX K (He.ga K "Row") "cut", "cut", "Row.cut", s_Row_cut, false, [], []⟩,
   ⟨fun K => He.ga K "ghosts_told", "ghosts_told", "ghosts_told", s_ghosts_told, false, [], []⟩,
   ⟨fun K => He.ga K "witt_made", "witt_made", "witt_made", s_witt_made, false, [], []⟩,
   ⟨fun K => atX K (He.ga K "Witt") "plus", "plus", "Witt.plus", s_Witt_plus, false, [], []⟩,
   ⟨fun K => atX K (He.ga K "Witt") "minus", "minus", "Witt.minus", s_Witt_minus, false, [], []⟩,
   ⟨fun K => atX K (He.ga K "Witt") "times", "times", "Witt.times", s_Witt_times, false, [], []⟩,
   ⟨fun K => atX K (He.ga K "Witt") "moved", "moved", "Witt.moved", s_Witt_moved, false, [], []⟩,
   ⟨fun K => atX K (He.ga K "Witt") "taken", "taken", "Witt.taken", s_Witt_taken, false, [], []⟩,
   ⟨fun K => atX K (He.ga K "Witt") "cut", "cut", "Witt.cut", s_Witt_cut, false, [], []⟩,
   ⟨fun K => atX K (He.ga K "Witt") "rests", "rests", "Witt.rests", s_Witt_rests, false, [], []⟩,
   ⟨fun K => He.ga K "_law_used_right", "_law_used_right", "_law_used_right", s__law_used_right, false, [], []⟩,
   ⟨fun K => He.ga K "law", "law", "law", s_law, false, [], []⟩,
   ⟨fun K => atX K (He.ga K "InvalidCount") "__init__", "__init__", "InvalidCount.__init__", sx_InvalidCount, true, [], []⟩],
  [fun K => He.ga K "_law_made_right", fun K => He.ga K "_law_used_right", fun K => He.ga K "law", fun K => atX K (He.ga K "Row") "__init__"], ads⟩
abbrev Rr : PySem.W.OpenRow := PySem.W.OpenLaw.row PySem.Challenge.rw_lawseries_k70_errors_of_ghosts
abbrev qv : Program := PySem.W.view Rr.prog [0, 90]
def loose0 : List PySem.Str := ["_wall", "SeriesError", "InvalidRatio", "InvalidModulus", "InvalidRow", "InvalidPrime", "InvalidGhosts", "InvalidOperation", "ParseError", "InvalidCount", "MAX_FIGURES", "FIGURES", "FAR", "is_plain", "is_short"]
def loose1 : List PySem.Str := ["Terms", "terms_of", "told_terms", "Ratio", "ratio_of", "pair_of", "figures_of", "parts_of", "MAX_FACTORED", "MOST_PRIME", "is_integer", "powers_in", "is_prime", "require_count", "require_integer"]
def loose2 : List PySem.Str := ["require_prime", "divisors_in", "moebius_in", "line_of", "line_sum", "line_times", "line_of_pairs", "line_exp", "MAX_ROW", "MOST_MODULUS_rows", "require_modulus", "is_number", "number_pair", "is_number_of", "Made"]
def loose3 : List PySem.Str := ["line_told", "term_text", "row_text", "Row", "line_in", "row_with", "require_row", "require_like", "MAX_GHOSTS", "MOST_MODULUS_ghosts", "are_numbers", "require_numbers", "power_of", "test_total", "fault_in"]
def loose4 : List PySem.Str := ["ghost_fault", "row_in", "ghost_row", "counts_in", "require_ghosts", "counts_of", "coordinate_total", "ghosts_in", "coordinates_in", "ghosts_of_entries", "artin_row", "Told", "told_coordinates", "Witt", "ghosts_told"]
def loose5 : List PySem.Str := ["witt_made", "_law_dice", "_law_roll", "_law_pick", "_law_met", "_law_made_right", "_law_used_right"]
def loose : List PySem.Str := loose0 ++ loose1 ++ loose2 ++ loose3 ++ loose4 ++ loose5
theorem run14 (w : World) : (wq Rr.prog 20000 w).map (fun x => ((HandSHeadRun.looksF Rr.prog x.1.heap x.2.abs, HandSHeadRun.seenQ qv loose (importedModules Rr.prog.main.body) (fun s => PySem.W.xlAt qv [] s && PySem.W.recOk Rr.toRowW.records s) x.2.abs), (partD tst x, partB tst x))) = some ((true, PySem.W.openGood qv loose), ((true, tst.ds.map DfX.due), true)) := by kernel_rfl
theorem run23 (w : World) : (wq Rr.prog 20000 w).map (fun x => (partT tst 0 139 x, partT tst 139 tst.ts.length x)) = some (true, true) := by kernel_rfl
theorem run1 (w : World) : (wq Rr.prog 20000 w).map (fun x => (HandSHeadRun.looksF Rr.prog x.1.heap x.2.abs, HandSHeadRun.seenQ qv loose (importedModules Rr.prog.main.body) (fun s => PySem.W.xlAt qv [] s && PySem.W.recOk Rr.toRowW.records s) x.2.abs)) = some (true, PySem.W.openGood qv loose) := (map_one (run14 w)).1
theorem run4 (w : World) : (wq Rr.prog 20000 w).map (fun x => (partD tst x, partB tst x)) = some ((true, tst.ds.map DfX.due), true) := (map_one (run14 w)).2
theorem run2 (w : World) : (wq Rr.prog 20000 w).map (partT tst 0 139) = some true := (map_one (run23 w)).1
theorem run3 (w : World) : (wq Rr.prog 20000 w).map (partT tst 139 tst.ts.length) = some true := (map_one (run23 w)).2
theorem run (w : World) : HandSHeadRun.RunEqI Rr qv tst.hook tst.ob 20000 loose w := run_of 139 (run1 w) (run2 w) (run3 w) (run4 w)
end K70

/-! Dx.Gd: promises of defs that are called while no repr is under way. -/
namespace Dx
open PySem PySem.Spec PyProof.Rows L2

/-- room, and no repr is under way -/
structure Room (k : Nat) (A : Around) : Prop extends L2.Room k A where
  gd : A.guards = some []
theorem Room.mono {j k : Nat} {A : Around} (r : Room k A) (h : j ≤ k) : Room j A := ⟨L2.Room.mono r.toRoom h, r.gd⟩
theorem Room.deeper {k : Nat} {A : Around} (r : Room (k + 1) A) (env : Env) : Room k (A.deeper env) := ⟨L2.Room.deeper r.toRoom env, r.gd⟩
theorem Room.in1 {k : Nat} {A : Around} (r : Room (k + 1) A) : Room k A.in1 := ⟨L2.Room.in1 r.toRoom, r.gd⟩
theorem make_guards {A : Around} {C : Addr} {us : List Value} {kw : List (Str × Value)} : (A.under (.builtin "type.__call__" ⟨.ref C :: us, kw⟩)).guards = A.guards := by
  first | rfl | simp [Around.under, Code.guards, Code.isGuard, pushGuards, guardIds]
theorem Room.make {k : Nat} {A : Around} (r : Room (k + 1) A) (C : Addr) (us : List Value) (kw : List (Str × Value)) : Room k (A.under (.builtin "type.__call__" ⟨.ref C :: us, kw⟩)) :=
  ⟨L2.Room.make r.toRoom C us kw, by rw [make_guards]; exact r.gd⟩
theorem Room.depth {k : Nat} {A : Around} (r : Room k A) : A.depth < recursionLimit := L2.Room.depth r.toRoom
theorem Room.units {k : Nat} {A : Around} (r : Room k A) : A.units + 64 < cLine := L2.Room.units r.toRoom
theorem Room.units0 {k : Nat} {A : Around} (r : Room k A) : A.units < cLine := L2.Room.units0 r.toRoom

/-- a def's promise, where no repr is under way -/
structure FnOk (P : Program) (w : World) (K : PySem.W.Frag) (mg : Str → Option Value) (base : Heap) (CX : CXT) (k : Nat)
    (f : Addr) (fd : FuncData) (ps : List Str) (sp : Sp) : Prop where
  len : ∀ vs H Q E, sp vs H Q E → vs.length = ps.length
  run : ∀ (A : Around) (outer : List Env) (s : Shared) (H : Hp) (args : Args) (us : List Value) (vs : List V) (Q : VK) (E : XK), Room k A →
    Env0 P w K mg base A outer s H → BindsTo s fd args (ps.zip us) → Vals vs us → sp vs H Q E → codeAny (model P w) A (.call (.ref f) args) (CR CX outer P w H s Q E) s
def FnR (P : Program) (w : World) (K : PySem.W.Frag) (mg : Str → Option Value) (base : Heap) (CX : CXT) (k : Nat)
    (f : Addr) (sp : Sp) : Prop := ∀ (A : Around) (outer : List Env) (s : Shared) (H : Hp) (us : List Value) (vs : List V) (Q : VK) (E : XK), Room k A →
  Env0 P w K mg base A outer s H → Vals vs us → sp vs H Q E → codeAny (model P w) A (.call (.ref f) ⟨us, []⟩) (CR CX outer P w H s Q E) s
section
variable {P : Program} {w : World} {K : PySem.W.Frag} {mg : Str → Option Value} {base : Heap} {CX : CXT} {j k : Nat} {f : Addr} {fd : FuncData} {ps : List Str} {sp sp' : Sp}
theorem FnOk.mono (F : FnOk P w K mg base CX j f fd ps sp) (h : j ≤ k) : FnOk P w K mg base CX k f fd ps sp :=
  ⟨F.len, fun A outer s H args us vs Q E room => F.run A outer s H args us vs Q E (room.mono h)⟩
theorem FnOk.imp (F : FnOk P w K mg base CX k f fd ps sp) (hi : ∀ vs H Q E, sp' vs H Q E → sp vs H Q E) : FnOk P w K mg base CX k f fd ps sp' :=
  ⟨fun _ _ _ _ q => F.len _ _ _ _ (hi _ _ _ _ q), fun A outer s H args us vs Q E room e b r q => F.run A outer s H args us vs Q E room e b r (hi _ _ _ _ q)⟩
theorem FnR.mono (F : FnR P w K mg base CX j f sp) (h : j ≤ k) : FnR P w K mg base CX k f sp := fun A outer s H us vs Q E room => F A outer s H us vs Q E (room.mono h)
theorem FnR.imp (F : FnR P w K mg base CX k f sp) (hi : ∀ vs H Q E, sp' vs H Q E → sp vs H Q E) : FnR P w K mg base CX k f sp' :=
  fun A outer s H us vs Q E room e r q => F A outer s H us vs Q E room e r (hi _ _ _ _ q)
theorem FnOk.raw {ds : List Value} {dvs : List V} (F : FnOk P w K mg base CX k f fd ps sp) (hb : L2.Binds K fd ps ds) (hd : Vals dvs ds) :
    FnR P w K mg base CX k f (fun vs H Q E => sp (vs ++ dvs) H Q E) := fun A outer s H us vs Q E room e r q => by
  have both : Vals (vs ++ dvs) (us ++ ds) := r.append hd
  refine F.run A outer s H ⟨us, []⟩ _ _ Q E room e (hb s us (e.mod.kin.keeps fun b o hbo => (e.bs b o hbo).1) ?_) both q
  rw [← both.length, F.len _ _ _ _ q]
end
section
variable {CX : CXT} {P : Program} {w : World} {K : PySem.W.Frag} {mg : Str → Option Value} {base : Heap} {k : Nat} {f : Addr} {name qual : Str} {params : Arguments} {body : List Stmt} {scope : Scope} {dV kV doc pm cdv ct oc : Value} {an od : Option Addr}
  {osl : Array (Option Value)} {N ps : List Str} {sp : Sp}
/-- a def by its body, where no repr is under way -/
theorem fn_of (hf : K.lookup f = some ⟨oc, od, .func (PySem.W.fnOf name qual params body scope dV kV doc pm an cdv ct), osl⟩) (hc : PySem.W.codeIn K cdv qual = true) (S : FnScope N ps scope)
    (len : ∀ vs H Q E, sp vs H Q E → vs.length = ps.length)
    (hb : ∀ (A : Around) (outer : List Env) (s : Shared) (H : Hp) (vs : List V) (Q : VK) (E : XK), Room k (A.deeper (envOfC qual scope s.heap.objs.size f cdv)) → sp vs H Q E →
      ∃ t, PSs (cxOf CX P w K mg base N qual scope f cdv A outer s H E) body t ∧ t { nx := fun _ H' => Q .non H', rt := Q } (start N vs) H) :
    FnOk P w K mg base CX (k + 1) f (PySem.W.fnOf name qual params body scope dV kV doc pm an cdv ct) ps sp where
  len := len
  run := fun A outer s H args us vs Q E room e0 bind rel q => by
    obtain ⟨t, body_t, wish⟩ := hb A outer s H vs Q E (room.deeper _) q
    have inH : K.In s.heap := e0.mod.kin.keeps fun b o z => (e0.bs b o z).1
    have nol := e0.mod.nolimit.keeps fun b o z => (e0.bs b o z).1
    have kinds : ∀ y ∈ ps.zip us, scope.names.lookup y.1 = some .local ∨ (scope.names.lookup y.1 = some .cell ∧ ((cellsFrom (s.heap.objs.size + 1) scope.names []).lookup y.1).isSome = true) := by
      rintro ⟨y, v⟩ hy
      cases S.par y (List.of_mem_zip hy).1 with
      | inl z => exact .inl z
      | inr z => exact .inr ⟨z, PySem.W.cellsFrom_some _ _ _ (.inl z)⟩
    refine codeAny_call_function room.depth (inH _ _ hf) rfl S.co S.gen rfl (PySem.W.codeRec_of inH hc) (bind _ _ _ _ (wpAny_newFunctionEnv_cells S.kind kinds ?_))
    intro env ee s1 st
    cases ee
    refine ⟨nol.keeps st.toInCall.keep, codeAny_func (wpAny_mono (body_t.run [] s1 (start N vs) H _ (inv_start S room.hd e0 (len _ _ _ _ q) rel st) wish) ?_ fun _ _ z => z)⟩
    intro fl s2 z
    cases fl with
    | next => obtain ⟨σ2, H2, J, z2⟩ := z; exact ⟨.non, H2, J.os, J.bare, J.base, J.hok, rfl, z2⟩
    | ret u => obtain ⟨v, σ2, H2, J, rv, z2⟩ := z; exact ⟨v, H2, J.os, J.bare, J.base, J.hok, rv, z2⟩
    | brk => obtain ⟨_, _, _, z2⟩ := z; exact z2.elim
    | cont => obtain ⟨_, _, _, z2⟩ := z; exact z2.elim
end
section
variable {P : Program} {w : World} {K : PySem.W.Frag} {mg : Str → Option Value} {base : Heap} {x qual : Str} {params : Arguments} {body : List Stmt} {scope : Scope} {dvs : List V} {kws : List (Str × V)} {f : Addr} {fd : FuncData}
theorem funD_ok {CX : CXT} {N ps : List Str} {k : Nat} {sp : Sp} (F : FunD K x qual params body scope dvs kws f fd) (S : FnScope N ps scope) (len : ∀ vs H Q E, sp vs H Q E → vs.length = ps.length)
    (hb : ∀ (cdv : Value) (A : Around) (outer : List Env) (s : Shared) (H : Hp) (vs : List V) (Q : VK) (E : XK), Room k (A.deeper (envOfC qual scope s.heap.objs.size f cdv)) → sp vs H Q E →
      ∃ t, PSs (cxOf CX P w K mg base N qual scope f cdv A outer s H E) body t ∧ t { nx := fun _ H' => Q .non H', rt := Q } (start N vs) H) : FnOk P w K mg base CX (k + 1) f fd ps sp := by
  obtain ⟨_, _, _, _, _, _, _, cdv, _, _, rfl, l, c, _, _⟩ := F.ex
  exact fn_of l c S len fun A outer s H vs Q E => hb cdv A outer s H vs Q E
end
section
variable {X : Cx} {CX : CXT} {pins : List (Addr × Obj)} {σ : L2.St} {H : Hp} {s : Shared} {a C dx p g : Addr} {vs : List (Option V)} {f : Str} {n : Nat} {sp : Sp} {E : XK}
/-- a property is read -/
theorem prop_sl {b : Bool} {Q : VK} (I : Inv X pins σ H s) (hs : SlX.Slt H a C dx vs) (sc : SlX.SCls X.K C) (fi : PySem.W.findIn X.K (.ref C) f = some (some (.ref p)))
    (gt : PySem.W.specialIn X.K (.ref p) "__get__" = some (some (.builtin "property.__get__"))) (tk : PySem.W.takesIn X.K (.ref p) = some true)
    (rc : ∃ rest, PySem.W.recIn X.K p "property" = some (.ref g :: rest)) (F : FnR X.prog X.w X.K X.mg X.base CX n g sp) (room : Room (n + 1) X.A)
    (no : ∀ (H : Hp) (s : Shared) (e : Value) (s' : Shared), CX X.stack H s E e s' → False) (q : sp [.ref a] H Q E) :
    wpAny (model X.prog X.w) X.A (getAttr (.ref a) f b) (EP X pins σ Q) X.xe s := by
  obtain ⟨rest, rcs⟩ := rc
  obtain ⟨sl, od, _, J, _⟩ := SlX.slt_inst I hs
  have I' : Inv X pins σ H { s with toks := s.toks + 1 } := I.tok (s.toks + 1)
  have run := codeAny_mono (F X.A.in1 X.stack _ H [.ref a] [.ref a] Q E room.in1 I'.env0.in1 (.cons rfl .nil) q) (R' := fun r s' => match r with
      | .ok (.ret v) => wpAny (model X.prog X.w) X.A (handedOut v) (EP X pins σ Q) X.xe s'
      | .ok _ => False
      | .error e => wpAny (model X.prog X.w) X.A (noteIf true (.ref a) (.str f s.toks) e) (fun _ s'' => X.xe e s'') X.xe s') fun r s' z => by
    match r, z with
    | .error e, z => exact (no _ _ _ _ z).elim
    | .ok (.ret u), z =>
      obtain ⟨v, H', J2, rv, qv⟩ := I'.after z
      exact wpAny_of_eq (PySem.W.handedOut_of (handed_of rv)) ⟨v, H', J2, rv, qv⟩
    | .ok .next, z => exact z.elim
    | .ok .brk, z => exact z.elim
    | .ok .cont, z => exact z.elim
  exact PySem.W.get_bind I.kIn J (PySem.W.plainGet_of (sc.get f)).1 (PySem.W.findObj_data sc.ic fi gt tk) (PySem.W.plainGet_of (sc.get f)).2 (wpAny_call (PySem.W.prop_get (s := { s with toks := s.toks + 1 }) I.kIn rcs run))
end
end Dx

/-! Dx.Core: data, local states, results; how they stand for values and heaps. -/
namespace Dx
open PySem PySem.Spec PyProof.Rows L2

inductive D where
  | non | bl (b : Bool) | int (i : Int) | str (x : Str)
  | tup (ds : List D) | lst (ds : List D)
  | dK (ks : List Key) (ds : List D) | dT (ks : List (List Key)) (ds : List D)
  | ins (c : Nat) (fs : List D)
  | scr (ns : List Int) | ty (n : String) | glo (n : Nat) | dice | rng (lo hi : Int)
  deriving Inhabited

/-- what a cell of the frame's own holds -/
inductive CO where
  | lst (ds : List D) | dK (ks : List Key) (ds : List D) | dT (ks : List (List Key)) (ds : List D)
def CO.d : CO → D
  | .lst ds => .lst ds | .dK ks ds => .dK ks ds | .dT ks ds => .dT ks ds
inductive Slot where
  | un | v (d : D) | own (c : CO) | slf | fn | er (n : Nat) (d : D)
/-- what a call shares with its callers: the dice; the object that is being made -/
structure G where
  d : Option (Int × Int × Int) := none
  ob : Option (Nat × List (Option D)) := none
structure Ad where
  d : Addr
  oa : Addr
  od : Addr
  fn : Addr
  er : Addr
  ed : Addr
  ec : Value
def G.sh (g : G) : Bool × Bool := (g.d.isSome, g.ob.isSome)
structure LSt where
  sl : List Slot
  g : G
/-- an exception: its class, what it keeps -/
structure XC where
  c : Nat
  args : List D

inductive Res (α : Type) where
  | ok (a : α) (l : LSt) | ex (x : XC) (l : LSt) | bad
@[reducible] def Res.bind {α β : Type} (r : Res α) (k : α → LSt → Res β) : Res β := match r with
  | .ok a l => k a l
  | .ex x l => .ex x l
  | .bad => .bad
/-- the end of an expression, a call: data, or a fresh cell -/
inductive EV where
  | v (d : D) | o (c : CO)
def EV.d : EV → D
  | .v d => d | .o c => c.d
inductive Fl where
  | nx (l : LSt) | rt (e : EV) (l : LSt) | bk (l : LSt) | ct (l : LSt) | ex (x : XC) (l : LSt) | bad
inductive FR where
  | ok (e : EV) (g : G) | ex (x : XC) (g : G) | bad
abbrev Fm := List D → G → FR

/-- the text: the written part, the classes' and the globals' addresses -/
structure Cn where
  K : PySem.W.Frag
  cA : Nat → Addr
  gA : Nat → Addr
  xf : Nat → Str
  /-- the tables of code objects: of lambdas, of generator expressions -/
  tq : Addr → Option Str := fun _ => none
  tg : Addr → Bool := fun _ => false
/-- a call: its text, the heaps at its entry, the dice's address -/
structure Ac extends Cn where
  hid : Hp
  Hf0 : Hp
  ad : Ad
  gs : Bool × Bool

mutual
def RVal (c : Cn) (ad : Ad) (H : Hp) : D → V → Prop
  | .non, v => v = .non
  | .bl b, v => v = .bl b
  | .int i, v => v = .int i
  | .str x, v => v = .str x
  | .tup ds, v => ∃ a vs, v = .ref a ∧ SqT c.K H a vs ∧ RVals c ad H ds vs
  | .lst ds, v => ∃ a vs, v = .ref a ∧ H a = some (.lst vs) ∧ RVals c ad H ds vs
  | .scr ns, v => ∃ a, v = .ref a ∧ SqL c.K H a (ns.map V.int)
  | .dK ks ds, v => ∃ a od vs, v = .ref a ∧ H a = some (.frz od (.dK (ks.zip vs))) ∧ ks.length = vs.length ∧ RVals c ad H ds vs
  | .dT ks ds, v => ∃ a od vs, v = .ref a ∧ H a = some (.frz od (.dT (ks.zip vs))) ∧ ks.length = vs.length ∧ RVals c ad H ds vs
  | .ins n fs, v => ∃ a dx vs, v = .ref a ∧ H a = some (SlX.SlO a (c.cA n) dx (vs.map some)) ∧ H dx = some (.xd []) ∧ RVals c ad H fs vs
  | .ty n, v => v = .ty n
  | .glo n, v => v = .ref (c.gA n)
  | .dice, v => v = .ref ad.d
  | .rng lo hi, v => ∃ a, v = .ref a ∧ H a = some (.rng lo hi)

def RVals (c : Cn) (ad : Ad) (H : Hp) : List D → List V → Prop
  | [], vs => vs = []
  | d :: ds, vs => ∃ v r, vs = v :: r ∧ RVal c ad H d v ∧ RVals c ad H ds r
end

theorem sameT {K : PySem.W.Frag} {H H' : Hp} {a : Addr} {xs : List V} (e : Same H H') (h : SqT K H a xs) : SqT K H' a xs := by
  rcases h with (h | ⟨o, h⟩) | h
  · exact .inl (.inl (e _ _ h))
  · exact .inl (.inr ⟨o, e _ _ h⟩)
  · exact .inr h
mutual
theorem RVal.mono {c : Cn} {ad : Ad} {H H' : Hp} (e : Same H H') : ∀ (d : D) (v : V), RVal c ad H d v → RVal c ad H' d v
  | .non, _, h => h
  | .bl _, _, h => h
  | .int _, _, h => h
  | .str _, _, h => h
  | .tup ds, _, ⟨a, vs, q, h, r⟩ => ⟨a, vs, q, sameT e h, RVals.mono e ds vs r⟩
  | .lst ds, _, ⟨a, vs, q, h, r⟩ => ⟨a, vs, q, e _ _ h, RVals.mono e ds vs r⟩
  | .scr _, _, ⟨a, q, h⟩ => ⟨a, q, e.seq h⟩
  | .dK ks ds, _, ⟨a, od, vs, q, h, l, r⟩ => ⟨a, od, vs, q, e _ _ h, l, RVals.mono e ds vs r⟩
  | .dT ks ds, _, ⟨a, od, vs, q, h, l, r⟩ => ⟨a, od, vs, q, e _ _ h, l, RVals.mono e ds vs r⟩
  | .ins n fs, _, ⟨a, dx, vs, q, h, h2, r⟩ => ⟨a, dx, vs, q, e _ _ h, e _ _ h2, RVals.mono e fs vs r⟩
  | .ty _, _, h => h
  | .glo _, _, h => h
  | .dice, _, h => h
  | .rng _ _, _, ⟨a, q, h⟩ => ⟨a, q, e _ _ h⟩

theorem RVals.mono {c : Cn} {ad : Ad} {H H' : Hp} (e : Same H H') : ∀ (ds : List D) (vs : List V), RVals c ad H ds vs → RVals c ad H' ds vs
  | [], _, h => h
  | d :: ds, _, ⟨v, r, q, h, t⟩ => ⟨v, r, q, RVal.mono e d v h, RVals.mono e ds r t⟩
end
section
variable {c : Cn} {ad : Ad} {H : Hp}
theorem RVals.nil : RVals c ad H [] [] := rfl
theorem RVals.cons {d : D} {v : V} {ds : List D} {vs : List V} (h : RVal c ad H d v) (t : RVals c ad H ds vs) : RVals c ad H (d :: ds) (v :: vs) := ⟨v, vs, rfl, h, t⟩
theorem RVals.length : ∀ {ds : List D} {vs : List V}, RVals c ad H ds vs → ds.length = vs.length
  | [], _, h => by cases (show _ = [] from h); rfl
  | _ :: _, _, ⟨v, r, q, _, t⟩ => by rw [q, List.length_cons, List.length_cons, RVals.length t]
theorem RVals.get : ∀ {ds : List D} {vs : List V} {i : Nat} {d : D}, RVals c ad H ds vs → ds[i]? = some d → ∃ v, vs[i]? = some v ∧ RVal c ad H d v
  | [], _, _, _, _, e => by simp at e
  | _ :: _, _, 0, _, ⟨v, r, q, h, t⟩, e => by
    simp at e
    subst e
    exact ⟨v, by rw [q]; rfl, h⟩
  | _ :: _, _, i + 1, d, ⟨v, r, q, h, t⟩, e => by
    obtain ⟨u, e1, e2⟩ := RVals.get (i := i) (d := d) t (by simpa using e)
    exact ⟨u, by rw [q]; simpa using e1, e2⟩
theorem RVals.getv : ∀ {ds : List D} {vs : List V} {i : Nat} {v : V}, RVals c ad H ds vs → vs[i]? = some v → ∃ d, ds[i]? = some d ∧ RVal c ad H d v
  | [], _, _, _, h, e => by
    cases (show _ = [] from h)
    simp at e
  | d :: _, _, 0, _, ⟨v, r, q, h, t⟩, e => by
    rw [q] at e
    simp at e
    subst e
    exact ⟨d, rfl, h⟩
  | _ :: _, _, i + 1, v', ⟨v, r, q, h, t⟩, e => by
    rw [q] at e
    obtain ⟨u, e1, e2⟩ := RVals.getv (i := i) (v := v') t (by simpa using e)
    exact ⟨u, by simpa using e1, e2⟩
theorem RVals.append : ∀ {ds es : List D} {vs us : List V}, RVals c ad H ds vs → RVals c ad H es us → RVals c ad H (ds ++ es) (vs ++ us)
  | [], _, _, _, h, t => by
    cases (show _ = [] from h)
    exact t
  | _ :: _, _, _, _, ⟨v, r, q, h, t⟩, u => by
    subst q
    exact ⟨v, _, rfl, h, RVals.append t u⟩
theorem RVals.take : ∀ {ds : List D} {vs : List V} (n : Nat), RVals c ad H ds vs → RVals c ad H (ds.take n) (vs.take n)
  | _, _, 0, _ => by simp [RVals]
  | [], _, n + 1, h => by
    cases (show _ = [] from h)
    simp [RVals]
  | _ :: _, _, n + 1, ⟨v, r, q, h, t⟩ => by
    subst q
    exact ⟨v, _, rfl, h, RVals.take n t⟩
theorem RVals.drop : ∀ {ds : List D} {vs : List V} (n : Nat), RVals c ad H ds vs → RVals c ad H (ds.drop n) (vs.drop n)
  | _, _, 0, h => by simpa using h
  | [], _, n + 1, h => by
    cases (show _ = [] from h)
    simp [RVals]
  | _ :: _, _, n + 1, ⟨v, r, q, h, t⟩ => by
    subst q
    exact RVals.drop n t
theorem RVals.set {d : D} {v : V} (hd : RVal c ad H d v) : ∀ {ds : List D} {vs : List V} (i : Nat), RVals c ad H ds vs → RVals c ad H (ds.set i d) (vs.set i v)
  | [], _, _, h => by
    cases (show _ = [] from h)
    exact rfl
  | _ :: _, _, 0, ⟨w, r, q, h, t⟩ => by
    subst q
    exact ⟨v, _, rfl, hd, t⟩
  | _ :: _, _, i + 1, ⟨w, r, q, h, t⟩ => by
    subst q
    exact ⟨w, _, rfl, h, RVals.set hd i t⟩
theorem RVals.reverse : ∀ {ds : List D} {vs : List V}, RVals c ad H ds vs → RVals c ad H ds.reverse vs.reverse
  | [], _, h => by
    cases (show _ = [] from h)
    exact rfl
  | d :: ds, _, ⟨w, r, q, h, t⟩ => by
    subst q
    rw [List.reverse_cons, List.reverse_cons]
    exact RVals.append (RVals.reverse t) (.cons h .nil)
end

/-! ### the state -/
def isT (cn : Cn) (a : Addr) : Prop := (cn.tq a).isSome = true ∨ cn.tg a = true
def isD (cn : Cn) (g : G) (ad : Ad) (a : Addr) : Prop := (g.sh.1 = true ∧ a = ad.d) ∨ (g.sh.2 = true ∧ (a = ad.oa ∨ a = ad.od)) ∨ isT cn a
/-- a table of code objects: what it tells is known -/
def TabF (Hf H : Hp) (P : Addr) (q : Str) : Prop := ∃ ps : Array Value, H P = some (.tbl ps) ∧ TriplesOk ps.toList ∧ ∀ (pos : Pos) (cv : Value), codeAmong pos ps.toList = some cv → ∃ c, cv = .ref c ∧ Hf c = some (LamX.CodeO c q)
def TabH (H : Hp) (P : Addr) : Prop := ∃ ps : Array Value, H P = some (.tbl ps) ∧ TriplesOk ps.toList
structure TbOk (cn : Cn) (Hf H : Hp) : Prop where
  lam : ∀ P q, cn.tq P = some q → Hf P = none ∧ TabF Hf H P q
  gen : ∀ P, cn.tg P = true → Hf P = none ∧ TabH H P
theorem TabF.keep {Hf Hf' H H' : Hp} {P : Addr} {q : Str} (t : TabF Hf H P q) (e : Same Hf Hf') (k : H' P = H P) : TabF Hf' H' P q := by
  obtain ⟨ps, h1, h2, h3⟩ := t
  refine ⟨ps, by rw [k]; exact h1, h2, fun pos cv h => ?_⟩
  obtain ⟨c, e1, e2⟩ := h3 pos cv h
  exact ⟨c, e1, e _ _ e2⟩
theorem TbOk.at_ {cn : Cn} {Hf H : Hp} (t : TbOk cn Hf H) {a : Addr} (h : isT cn a) : ∃ ps, H a = some (.tbl ps) := by
  rcases h with h | h
  · obtain ⟨q, hq⟩ := Option.isSome_iff_exists.mp h
    obtain ⟨_, ps, h1, _⟩ := t.lam a q hq
    exact ⟨ps, h1⟩
  · obtain ⟨_, ps, h1, _⟩ := t.gen a h
    exact ⟨ps, h1⟩
theorem TbOk.nf {cn : Cn} {Hf H : Hp} (t : TbOk cn Hf H) {a : Addr} (h : isT cn a) : Hf a = none := by
  rcases h with h | h
  · obtain ⟨q, hq⟩ := Option.isSome_iff_exists.mp h
    exact (t.lam a q hq).1
  · exact (t.gen a h).1
theorem TbOk.ne {cn : Cn} {Hf H : Hp} (t : TbOk cn Hf H) {a b : Addr} {o : HO} (h : isT cn a) (e : H b = some o) (ho : ∀ ps, o ≠ .tbl ps) : a ≠ b := fun z => by
  obtain ⟨ps, e2⟩ := t.at_ h
  rw [z, e] at e2
  exact ho ps (Option.some.inj e2)
theorem TbOk.keep {cn : Cn} {Hf Hf' H H' : Hp} (t : TbOk cn Hf H) (e : Same Hf Hf') (k : ∀ a, isT cn a → H' a = H a) (k2 : ∀ a, isT cn a → Hf' a = Hf a) : TbOk cn Hf' H' :=
  ⟨fun P q h => by
    have hT : isT cn P := .inl (by rw [h]; rfl)
    obtain ⟨n, f⟩ := t.lam P q h
    exact ⟨by rw [k2 P hT]; exact n, f.keep e (k P hT)⟩, fun P h => by
    have hT : isT cn P := .inr h
    obtain ⟨n, ps, h1, h2⟩ := t.gen P h
    exact ⟨by rw [k2 P hT]; exact n, ps, by rw [k P hT]; exact h1, h2⟩⟩
/-- the fields that an object has so far -/
def ROs (c : Cn) (ad : Ad) (Hf : Hp) (fs : List (Option D)) (us : List (Option V)) : Prop := fs.length = us.length ∧ ∀ (i : Nat) (d : D), fs[i]? = some (some d) → ∃ v, us[i]? = some (some v) ∧ RVal c ad Hf d v
def DcOk (Hf H : Hp) (ad : Ad) (g : G) : Prop := ∀ x y z, g.d = some (x, y, z) → Hf ad.d = none ∧ H ad.d = some (.lst [.int x, .int y, .int z])
def ObOk (c : Cn) (Hf H : Hp) (ad : Ad) (g : G) : Prop := ∀ n fs, g.ob = some (n, fs) → Hf ad.oa = none ∧ Hf ad.od = none ∧ ad.od ≠ ad.oa ∧ (H ad.od = some (.own ad.oa) ∨ H ad.od = some (.xd [])) ∧ ∃ us, SlX.Slt H ad.oa (c.cA n) ad.od us ∧ ROs c ad Hf fs us
structure DiceOk (c : Cn) (Hf H : Hp) (ad : Ad) (g : G) : Prop where
  dc : DcOk Hf H ad g
  obj : ObOk c Hf H ad g
  tb : TbOk c Hf H
/-- what a cell holds, by its object -/
def RCO (c : Cn) (ad : Ad) (Hf : Hp) : CO → HO → Prop
  | .lst ds, o => ∃ vs, o = .lst vs ∧ RVals c ad Hf ds vs
  | .dK ks ds, o => ∃ vs, o = .dK (ks.zip vs) ∧ ks.length = vs.length ∧ RVals c ad Hf ds vs
  | .dT ks ds, o => ∃ vs, o = .dT (ks.zip vs) ∧ ks.length = vs.length ∧ RVals c ad Hf ds vs
theorem RCO.mono {c : Cn} {ad : Ad} {Hf Hf' : Hp} (e : Same Hf Hf') : ∀ {co : CO} {o : HO}, RCO c ad Hf co o → RCO c ad Hf' co o
  | .lst ds, _, ⟨vs, q, r⟩ => ⟨vs, q, RVals.mono e _ _ r⟩
  | .dK ks ds, _, ⟨vs, q, l, r⟩ => ⟨vs, q, l, RVals.mono e _ _ r⟩
  | .dT ks ds, _, ⟨vs, q, l, r⟩ => ⟨vs, q, l, RVals.mono e _ _ r⟩
/-- a cell's object as data: a dict is locked -/
def lk : CO → Obj → HO → HO
  | .lst _, _, o => o
  | _, od, o => .frz od o
/-- a cell, seen as data in a heap that holds it -/
theorem RCO.val {c : Cn} {ad : Ad} {Hf : Hp} {a : Addr} {o : HO} (od : Obj) (n : Hf a = none) : ∀ {co : CO}, RCO c ad Hf co o → RVal c ad (upd Hf a (lk co od o)) co.d (.ref a)
  | .lst ds, ⟨vs, q, r⟩ => ⟨a, vs, rfl, by rw [upd_same]; exact congrArg some q, RVals.mono (fun b u e => by rw [upd_ne (ne_of_none e n)]; exact e) _ _ r⟩
  | .dK ks ds, ⟨vs, q, l, r⟩ => ⟨a, od, vs, rfl, by rw [upd_same, q]; rfl, l, RVals.mono (fun b u e => by rw [upd_ne (ne_of_none e n)]; exact e) _ _ r⟩
  | .dT ks ds, ⟨vs, q, l, r⟩ => ⟨a, od, vs, rfl, by rw [upd_same, q]; rfl, l, RVals.mono (fun b u e => by rw [upd_ne (ne_of_none e n)]; exact e) _ _ r⟩
theorem RCO.mut {c : Cn} {ad : Ad} {Hf : Hp} {o : HO} : ∀ {co : CO}, RCO c ad Hf co o → Mut (some o)
  | .lst _, ⟨_, q, _⟩ => q ▸ True.intro
  | .dK _ _, ⟨_, q, _⟩ => q ▸ True.intro
  | .dT _ _, ⟨_, q, _⟩ => q ▸ True.intro
theorem upd_id {H : Hp} {a : Addr} {o : HO} (h : H a = some o) : upd H a o = H := by
  funext b
  by_cases e : b = a
  · rw [e, upd_same, h]
  · rw [upd_ne e]
/-- what is to be done with a cell's object that becomes data -/
def LkP (Q : VK) (v : V) (H : Hp) : Prop := Q v H ∨ ∃ d u, v = .ref d ∧ H d = some u ∧ Mut (some u) ∧ ∀ od, Q v (upd H d (.frz od u))
theorem RCO.lkp {c : Cn} {ad : Ad} {Hf H : Hp} {a : Addr} {o : HO} {Q : VK} (ha : H a = some o) : ∀ {co : CO}, RCO c ad Hf co o → (∀ od, Q (.ref a) (upd H a (lk co od o))) → LkP Q (.ref a) H
  | .lst _, _, h => .inl (by have := h default; rw [show lk (.lst _) default o = o from rfl, upd_id ha] at this; exact this)
  | .dK _ _, r, h => .inr ⟨a, o, rfl, ha, r.mut, h⟩
  | .dT _ _, r, h => .inr ⟨a, o, rfl, ha, r.mut, h⟩
theorem same_upd {H : Hp} {a : Addr} {o : HO} (n : H a = none) : Same H (upd H a o) := fun b u e => by rw [upd_ne (ne_of_none e n)]; exact e
theorem upd_sub {Hf H : Hp} {a : Addr} {o : HO} (s : Same Hf H) (h : H a = some o) : Same (upd Hf a o) H := fun b u e => by
  by_cases hb : b = a
  · subst hb
    rw [upd_same] at e
    cases e
    exact h
  · rw [upd_ne hb] at e
    exact s b u e

/-- an error, caught: its field -/
def RErr (cn : Cn) (ad : Ad) (Hf : Hp) (n : Nat) (d : D) (x : Option V) : Prop := x = some (.ref ad.er) ∧ ad.ec = .ref (cn.cA n) ∧ ∃ v, Hf ad.ed = some (.xd [(cn.xf n, v)]) ∧ RVal cn ad Hf d v
theorem RErr.mono {cn : Cn} {ad : Ad} {Hf Hf' : Hp} {n : Nat} {d : D} {x : Option V} (e : Same Hf Hf') (h : RErr cn ad Hf n d x) : RErr cn ad Hf' n d x := by
  obtain ⟨h1, hc, v, h2, h3⟩ := h
  exact ⟨h1, hc, v, e _ _ h2, h3.mono e⟩
/-- a slot, in the heaps -/
def RSlot (c : Ac) (Hf H : Hp) (g : G) : Slot → Option V → Prop
  | .un, _ => True
  | .v d, x => ∃ v, x = some v ∧ RVal c.toCn c.ad Hf d v
  | .own co, x => ∃ a o, x = some (.ref a) ∧ H a = some o ∧ RCO c.toCn c.ad Hf co o ∧ Hf a = none ∧ c.hid a = none ∧ ¬ isD c.toCn g c.ad a
  | .slf, x => x = some (.ref c.ad.oa)
  | .fn, x => x = some (.ref c.ad.fn)
  | .er n d, x => RErr c.toCn c.ad Hf n d x
def isOwn : Slot → Bool
  | .own _ => true
  | _ => false
structure REnv (c : Ac) (Hf : Hp) (σ : L2.St) (H : Hp) (l : LSt) : Prop where
  len : σ.length = l.sl.length
  slot : ∀ (i : Nat) (s : Slot), l.sl[i]? = some s → ∃ x : Option V, σ[i]? = some x ∧ RSlot c Hf H l.g s x
  dis : ∀ (i j : Nat) (s t : Slot) (a : Addr), l.sl[i]? = some s → l.sl[j]? = some t → isOwn s = true → isOwn t = true → σ[i]? = some (some (.ref a)) → σ[j]? = some (some (.ref a)) → i = j
  sub : Same Hf H
  base : Same c.Hf0 Hf
  frame : ∀ a o, c.hid a = some o → H a = some o ∧ Hf a = none ∧ ¬ isD c.toCn l.g c.ad a
  dice : DiceOk c.toCn Hf H c.ad l.g
  hgs : l.g.sh = c.gs

section
variable {c : Ac} {Hf H : Hp} {σ : L2.St} {l : LSt}
theorem REnv.val (R : REnv c Hf σ H l) {i : Nat} {d : D} (h : l.sl[i]? = some (.v d)) : ∃ v, σ[i]? = some (some v) ∧ RVal c.toCn c.ad Hf d v := by
  obtain ⟨x, e, v, q, r⟩ := R.slot i _ h
  exact ⟨v, by rw [e, q], r⟩
theorem REnv.own (R : REnv c Hf σ H l) {i : Nat} {co : CO} (h : l.sl[i]? = some (.own co)) :
    ∃ a o, σ[i]? = some (some (.ref a)) ∧ H a = some o ∧ RCO c.toCn c.ad Hf co o ∧ Hf a = none ∧ c.hid a = none ∧ ¬ isD c.toCn l.g c.ad a := by
  obtain ⟨x, e, a, o, q, r⟩ := R.slot i _ h
  exact ⟨a, o, by rw [e, q], r⟩
section
variable {cn : Cn} {ad : Ad} {a : Addr} {o : HO} {g : G}
theorem ROs.mono {fs : List (Option D)} {us : List (Option V)} {Hf' : Hp} (e : Same Hf Hf') (h : ROs cn ad Hf fs us) : ROs cn ad Hf' fs us := ⟨h.1, fun i d q => by
  obtain ⟨v, h1, h2⟩ := h.2 i d q
  exact ⟨v, h1, h2.mono e⟩⟩
theorem slt_there {H : Hp} {x C dx : Addr} {vs : List (Option V)} (h : SlX.Slt H x C dx vs) : ∃ o, H x = some o := by
  rcases h with ⟨h, _⟩ | ⟨h, _⟩
  · exact ⟨_, h⟩
  · exact ⟨_, h⟩
theorem slt_upd {H : Hp} {x C dx : Addr} {vs : List (Option V)} (h : SlX.Slt H x C dx vs) (h1 : x ≠ a) (h2 : dx ≠ a) : SlX.Slt (upd H a o) x C dx vs := by
  rcases h with ⟨h, e⟩ | ⟨h, e⟩
  · exact .inl ⟨by rw [upd_ne h1]; exact h, e⟩
  · exact .inr ⟨by rw [upd_ne h1]; exact h, by rw [upd_ne h2]; exact e⟩
/-- what is at the reserved places is there -/
theorem DiceOk.new (R : DiceOk cn Hf H ad g) (n : H a = none) : ¬ isD cn g ad a := by
  rintro (⟨h1, h2⟩ | ⟨h1, h2⟩ | hT)
  · have h1' : g.d.isSome = true := h1
    cases e : g.d with
    | none =>
      rw [e] at h1'
      cases h1'
    | some t =>
      obtain ⟨x, y, z⟩ := t
      have := (R.dc x y z e).2
      rw [← h2, n] at this
      cases this
  · have h1' : g.ob.isSome = true := h1
    cases e : g.ob with
    | none =>
      rw [e] at h1'
      cases h1'
    | some t =>
      obtain ⟨k, fs⟩ := t
      obtain ⟨_, _, _, h3, us, h4, _⟩ := R.obj k fs e
      rcases h2 with h2 | h2
      · obtain ⟨u, h5⟩ := slt_there h4
        rw [← h2, n] at h5
        cases h5
      · rcases h3 with h3 | h3
        · rw [← h2, n] at h3
          cases h3
        · rw [← h2, n] at h3
          cases h3
  · obtain ⟨ps, h1⟩ := R.tb.at_ hT
    rw [n] at h1
    cases h1
/-- another object is changed, or seen -/
theorem DiceOk.other {Hf' H' : Hp} (R : DiceOk cn Hf H ad g) (nd : ¬ isD cn g ad a) (e : Same Hf Hf') (h1 : ∀ b, b ≠ a → H' b = H b) (h2 : ∀ b, b ≠ a → Hf' b = Hf b) : DiceOk cn Hf' H' ad g := by
  refine ⟨fun x y z q => ?_, fun k fs q => ?_, R.tb.keep e (fun b hb => h1 _ fun z => nd (.inr (.inr (z ▸ hb)))) fun b hb => h2 _ fun z => nd (.inr (.inr (z ▸ hb)))⟩
  · have ne : ad.d ≠ a := fun z => nd (.inl ⟨by show g.d.isSome = true; rw [q]; rfl, z.symm⟩)
    rw [h1 _ ne, h2 _ ne]
    exact R.dc x y z q
  · have hs : g.ob.isSome = true := by rw [q]; rfl
    have n1 : ad.oa ≠ a := fun z => nd (.inr (.inl ⟨hs, .inl z.symm⟩))
    have n2 : ad.od ≠ a := fun z => nd (.inr (.inl ⟨hs, .inr z.symm⟩))
    obtain ⟨q1, q2, q3, q4, us, q5, q6⟩ := R.obj k fs q
    refine ⟨by rw [h2 _ n1]; exact q1, by rw [h2 _ n2]; exact q2, q3, ?_, us, ?_, q6.mono e⟩
    · rw [h1 _ n2]
      exact q4
    · rcases q5 with ⟨h, e⟩ | ⟨h, e⟩
      · exact .inl ⟨by rw [h1 _ n1]; exact h, e⟩
      · exact .inr ⟨by rw [h1 _ n1]; exact h, by rw [h1 _ n2]; exact e⟩
theorem DiceOk.alloc (R : DiceOk cn Hf H ad g) (n : H a = none) (nf : Hf a = none) : DiceOk cn (upd Hf a o) (upd H a o) ad g :=
  R.other (R.new n) (same_upd nf) (fun b hb => upd_ne hb) fun b hb => upd_ne hb
theorem DiceOk.hid (R : DiceOk cn Hf H ad g) (n : H a = none) : DiceOk cn Hf (upd H a o) ad g := R.other (R.new n) (Same.refl _) (fun b hb => upd_ne hb) fun b hb => rfl
theorem DiceOk.seen (R : DiceOk cn Hf H ad g) (nd : ¬ isD cn g ad a) (nf : Hf a = none) : DiceOk cn (upd Hf a o) H ad g := R.other nd (same_upd nf) (fun b hb => rfl) fun b hb => upd_ne hb
theorem DiceOk.poke (R : DiceOk cn Hf H ad g) (nd : ¬ isD cn g ad a) : DiceOk cn Hf (upd H a o) ad g := R.other nd (Same.refl _) (fun b hb => upd_ne hb) fun b hb => rfl
end
theorem RSlot.keep {Hf' H' : Hp} {g : G} (e : Same Hf Hf') (k : ∀ a o, H a = some o → Hf a = none → c.hid a = none → ¬ isD c.toCn g c.ad a → H' a = some o ∧ Hf' a = none) : ∀ {s : Slot} {x : Option V}, RSlot c Hf H g s x → RSlot c Hf' H' g s x
  | .un, _, _ => True.intro
  | .v d, _, ⟨v, q, r⟩ => ⟨v, q, r.mono e⟩
  | .own co, _, ⟨a, o, q, h, r, n, n0, nd⟩ => ⟨a, o, q, (k a o h n n0 nd).1, r.mono e, (k a o h n n0 nd).2, n0, nd⟩
  | .slf, _, h => h
  | .fn, _, h => h
  | .er _ _, _, h => h.mono e
/-- a new object, seen -/
theorem REnv.alloc (R : REnv c Hf σ H l) {a : Addr} {o : HO} (n : H a = none) : REnv c (upd Hf a o) σ (upd H a o) l where
  len := R.len
  slot := fun i s h => by
    obtain ⟨x, e, r⟩ := R.slot i s h
    exact ⟨x, e, r.keep (same_upd (R.sub.free n)) fun b u hb hn _ _ => by rw [upd_ne (ne_of_none hb n), upd_ne (ne_of_none hb n)]; exact ⟨hb, hn⟩⟩
  dis := R.dis
  sub := fun b u e => by
    by_cases hb : b = a
    · subst hb
      rw [upd_same] at e ⊢
      exact e
    · rw [upd_ne hb] at e ⊢
      exact R.sub b u e
  base := R.base.trans (same_upd (R.sub.free n))
  frame := fun b u h1 => by
    obtain ⟨e1, e2, e3⟩ := R.frame b u h1
    have ne : b ≠ a := ne_of_none e1 n
    rw [upd_ne ne, upd_ne ne]
    exact ⟨e1, e2, e3⟩
  dice := R.dice.alloc n (R.sub.free n)
  hgs := R.hgs
theorem REnv.free (R : REnv c Hf σ H l) {a : Addr} (n : H a = none) : Hf a = none := R.sub.free n
/-- a new object, not yet seen -/
theorem REnv.hid (R : REnv c Hf σ H l) {a : Addr} {o : HO} (n : H a = none) : REnv c Hf σ (upd H a o) l where
  len := R.len
  slot := fun i s h => by
    obtain ⟨x, e, r⟩ := R.slot i s h
    exact ⟨x, e, r.keep (Same.refl _) fun b u hb hn _ _ => by rw [upd_ne (ne_of_none hb n)]; exact ⟨hb, hn⟩⟩
  dis := R.dis
  sub := R.sub.trans (same_upd n)
  base := R.base
  frame := fun b u h1 => by
    obtain ⟨e1, e2, e3⟩ := R.frame b u h1
    have ne : b ≠ a := ne_of_none e1 n
    rw [upd_ne ne]
    exact ⟨e1, e2, e3⟩
  dice := R.dice.hid n
  hgs := R.hgs
end

section
variable {c : Ac} {Hf H : Hp} {σ : L2.St} {l : LSt}
def LSt.put (l : LSt) (i : Nat) (s : Slot) : LSt := { l with sl := l.sl.set i s }
/-- a cell is frozen -/
theorem REnv.freeze (R : REnv c Hf σ H l) {i : Nat} {co : CO} (h : l.sl[i]? = some (.own co)) : ∃ a o, σ[i]? = some (some (.ref a)) ∧ H a = some o ∧ RCO c.toCn c.ad Hf co o ∧ Hf a = none ∧
    ∀ od, REnv c (upd Hf a (lk co od o)) σ (upd H a (lk co od o)) (l.put i (.v co.d)) ∧ RVal c.toCn c.ad (upd Hf a (lk co od o)) co.d (.ref a) := by
  obtain ⟨a, o, e, ha, r, n, n0, nd⟩ := R.own h
  have hi : i < l.sl.length := (List.getElem?_eq_some_iff.mp h).1
  refine ⟨a, o, e, ha, r, n, fun od => ⟨⟨by rw [R.len]; exact (List.length_set ..).symm, fun j s hj => ?_, fun j k s t b hj hk os ot ej ek => ?_, fun b u hb => ?_, R.base.trans (same_upd n), fun b u h1 => ?_, ?_, R.hgs⟩, r.val od n⟩⟩
  · by_cases hji : j = i
    · subst hji
      have q : (LSt.put l j (.v co.d)).sl[j]? = some (.v co.d) := List.getElem?_set_self hi
      rw [q] at hj
      cases hj
      exact ⟨_, e, .ref a, rfl, r.val od n⟩
    · have q : (LSt.put l i (.v co.d)).sl[j]? = l.sl[j]? := List.getElem?_set_ne (Ne.symm hji)
      rw [q] at hj
      obtain ⟨x, ex, rs⟩ := R.slot j s hj
      refine ⟨x, ex, ?_⟩
      cases s with
      | un => exact True.intro
      | slf => exact rs
      | fn => exact rs
      | er _ _ => exact rs.mono (same_upd n)
      | v d =>
        obtain ⟨v, qv, rv⟩ := rs
        exact ⟨v, qv, rv.mono (same_upd n)⟩
      | own co' =>
        obtain ⟨a', o', qa, ha', r', n', n0', nd'⟩ := rs
        have ne : a' ≠ a := fun z => hji (R.dis j i _ _ a hj h rfl rfl (by rw [ex, qa, z]) e)
        exact ⟨a', o', qa, by rw [upd_ne ne]; exact ha', r'.mono (same_upd n), by rw [upd_ne ne]; exact n', n0', nd'⟩
  · have hji : j ≠ i := fun z => by
      subst z
      have q : (LSt.put l j (.v co.d)).sl[j]? = some (.v co.d) := List.getElem?_set_self hi
      rw [q] at hj
      cases hj
      cases os
    have hki : k ≠ i := fun z => by
      subst z
      have q : (LSt.put l k (.v co.d)).sl[k]? = some (.v co.d) := List.getElem?_set_self hi
      rw [q] at hk
      cases hk
      cases ot
    have q1 : (LSt.put l i (.v co.d)).sl[j]? = l.sl[j]? := List.getElem?_set_ne (Ne.symm hji)
    have q2 : (LSt.put l i (.v co.d)).sl[k]? = l.sl[k]? := List.getElem?_set_ne (Ne.symm hki)
    rw [q1] at hj
    rw [q2] at hk
    exact R.dis j k s t b hj hk os ot ej ek
  · by_cases e' : b = a
    · subst e'
      rw [upd_same] at hb ⊢
      exact hb
    · rw [upd_ne e'] at hb ⊢
      exact R.sub b u hb
  · obtain ⟨e1, e2, e3⟩ := R.frame b u h1
    have ne : b ≠ a := fun z => by rw [z, n0] at h1; cases h1
    rw [upd_ne ne, upd_ne ne]
    exact ⟨e1, e2, e3⟩
  · exact R.dice.other nd (same_upd n) (fun b hb => upd_ne hb) fun b hb => upd_ne hb
/-- a slot is stored, by data -/
theorem REnv.store (R : REnv c Hf σ H l) {i : Nat} {d : D} {v : V} (r : RVal c.toCn c.ad Hf d v) : REnv c Hf (σ.set i (some v)) H (l.put i (.v d)) where
  len := by
    show (σ.set i (some v)).length = (l.sl.set i (.v d)).length
    rw [List.length_set, List.length_set]
    exact R.len
  slot := fun j s hj => by
    by_cases hji : j = i
    · subst hji
      have hj' : (l.sl.set j (.v d))[j]? = some s := hj
      have hl : j < l.sl.length := by
        have := (List.getElem?_eq_some_iff.mp hj').1
        rwa [List.length_set] at this
      rw [List.getElem?_set_self hl] at hj'
      cases hj'
      exact ⟨some v, List.getElem?_set_self (by rw [R.len]; exact hl), v, rfl, r⟩
    · have hj' : (l.sl.set i (.v d))[j]? = some s := hj
      rw [List.getElem?_set_ne (Ne.symm hji)] at hj'
      obtain ⟨x, e, q⟩ := R.slot j s hj'
      exact ⟨x, by rw [List.getElem?_set_ne (Ne.symm hji)]; exact e, q⟩
  dis := fun j k s t b hj hk os ot ej ek => by
    have hj' : (l.sl.set i (.v d))[j]? = some s := hj
    have hk' : (l.sl.set i (.v d))[k]? = some t := hk
    have own_ne : ∀ {m : Nat} {u : Slot}, (l.sl.set i (.v d))[m]? = some u → isOwn u = true → m ≠ i := fun {m u} hm ou z => by
      subst z
      have hl : m < l.sl.length := by
        have := (List.getElem?_eq_some_iff.mp hm).1
        rwa [List.length_set] at this
      rw [List.getElem?_set_self hl] at hm
      cases hm
      cases ou
    have n1 := own_ne hj' os
    have n2 := own_ne hk' ot
    rw [List.getElem?_set_ne (Ne.symm n1)] at hj' ej
    rw [List.getElem?_set_ne (Ne.symm n2)] at hk' ek
    exact R.dis j k s t b hj' hk' os ot ej ek
  sub := R.sub
  base := R.base
  frame := R.frame
  dice := R.dice
  hgs := R.hgs
/-- a slot is stored, by a fresh cell -/
theorem REnv.storeO (R : REnv c Hf σ H l) {i : Nat} {co : CO} {a : Addr} {o : HO} (h : H a = some o) (r : RCO c.toCn c.ad Hf co o) (n : Hf a = none) (n0 : c.hid a = none) (nd : ¬ isD c.toCn l.g c.ad a)
    (fr : ∀ (j : Nat) (s : Slot), l.sl[j]? = some s → isOwn s = true → σ[j]? ≠ some (some (.ref a))) : REnv c Hf (σ.set i (some (.ref a))) H (l.put i (.own co)) where
  len := by
    show (σ.set i (some (.ref a))).length = (l.sl.set i (.own co)).length
    rw [List.length_set, List.length_set]
    exact R.len
  slot := fun j s hj => by
    have hj' : (l.sl.set i (.own co))[j]? = some s := hj
    by_cases hji : j = i
    · subst hji
      have hl : j < l.sl.length := by
        have := (List.getElem?_eq_some_iff.mp hj').1
        rwa [List.length_set] at this
      rw [List.getElem?_set_self hl] at hj'
      cases hj'
      exact ⟨some (.ref a), List.getElem?_set_self (by rw [R.len]; exact hl), a, o, rfl, h, r, n, n0, nd⟩
    · rw [List.getElem?_set_ne (Ne.symm hji)] at hj'
      obtain ⟨x, e, q⟩ := R.slot j s hj'
      exact ⟨x, by rw [List.getElem?_set_ne (Ne.symm hji)]; exact e, q⟩
  dis := fun j k s t b hj hk os ot ej ek => by
    have hj' : (l.sl.set i (.own co))[j]? = some s := hj
    have hk' : (l.sl.set i (.own co))[k]? = some t := hk
    by_cases n1 : j = i
    · by_cases n2 : k = i
      · rw [n1, n2]
      · exfalso
        subst n1
        have hl : j < l.sl.length := by
          have := (List.getElem?_eq_some_iff.mp hj').1
          rwa [List.length_set] at this
        rw [List.getElem?_set_self (by rw [R.len]; exact hl)] at ej
        cases ej
        rw [List.getElem?_set_ne (Ne.symm n2)] at hk' ek
        exact fr k t hk' ot ek
    · rw [List.getElem?_set_ne (Ne.symm n1)] at hj' ej
      by_cases n2 : k = i
      · exfalso
        subst n2
        have hl : k < l.sl.length := by
          have := (List.getElem?_eq_some_iff.mp hk').1
          rwa [List.length_set] at this
        rw [List.getElem?_set_self (by rw [R.len]; exact hl)] at ek
        cases ek
        exact fr j s hj' os ej
      · rw [List.getElem?_set_ne (Ne.symm n2)] at hk' ek
        exact R.dis j k s t b hj' hk' os ot ej ek
  sub := R.sub
  base := R.base
  frame := R.frame
  dice := R.dice
  hgs := R.hgs
/-- a cell of the frame's own is written -/
theorem REnv.write (R : REnv c Hf σ H l) {i : Nat} {co co' : CO} {a : Addr} {o : HO} (h : l.sl[i]? = some (.own co)) (e : σ[i]? = some (some (.ref a))) (r : RCO c.toCn c.ad Hf co' o) : REnv c Hf σ (upd H a o) (l.put i (.own co')) := by
  obtain ⟨a', o', e', ha, _, n, n0, nd⟩ := R.own h
  have ea : a' = a := by
    rw [e'] at e
    cases e
    rfl
  subst ea
  have hi : i < l.sl.length := (List.getElem?_eq_some_iff.mp h).1
  refine ⟨by rw [R.len]; exact (List.length_set ..).symm, fun j s hj => ?_, fun j k s t b hj hk os ot ej ek => ?_, fun b u hb => by rw [upd_ne (fun z => by rw [z, n] at hb; cases hb)]; exact R.sub b u hb, R.base, fun b u h1 => ?_, ?_, R.hgs⟩
  · have hj' : (l.sl.set i (.own co'))[j]? = some s := hj
    by_cases hji : j = i
    · subst hji
      rw [List.getElem?_set_self hi] at hj'
      cases hj'
      exact ⟨_, e', a', o, rfl, upd_same, r, n, n0, nd⟩
    · rw [List.getElem?_set_ne (Ne.symm hji)] at hj'
      obtain ⟨x, ex, rs⟩ := R.slot j s hj'
      refine ⟨x, ex, ?_⟩
      cases s with
      | un => exact True.intro
      | slf => exact rs
      | fn => exact rs
      | er _ _ => exact rs
      | v d => exact rs
      | own co2 =>
        obtain ⟨a2, o2, qa, ha2, r2, n2, n02, nd2⟩ := rs
        have ne : a2 ≠ a' := fun z => hji (R.dis j i _ _ a' hj' h rfl rfl (by rw [ex, qa, z]) e')
        exact ⟨a2, o2, qa, by rw [upd_ne ne]; exact ha2, r2, n2, n02, nd2⟩
  · have hj' : (l.sl.set i (.own co'))[j]? = some s := hj
    have hk' : (l.sl.set i (.own co'))[k]? = some t := hk
    have back : ∀ {m : Nat} {u : Slot}, (l.sl.set i (.own co'))[m]? = some u → isOwn u = true → ∃ u', l.sl[m]? = some u' ∧ isOwn u' = true := fun {m u} hm ou => by
      by_cases z : m = i
      · subst z
        exact ⟨_, h, rfl⟩
      · rw [List.getElem?_set_ne (Ne.symm z)] at hm
        exact ⟨u, hm, ou⟩
    obtain ⟨s', hs', os'⟩ := back hj' os
    obtain ⟨t', ht', ot'⟩ := back hk' ot
    exact R.dis j k s' t' b hs' ht' os' ot' ej ek
  · obtain ⟨e1, e2, e3⟩ := R.frame b u h1
    exact ⟨by rw [upd_ne (fun z => by rw [z, n0] at h1; cases h1)]; exact e1, e2, e3⟩
  · exact R.dice.poke nd
end
end Dx

/-! Dx.Expr: expressions that give data. -/
namespace Dx
open PySem PySem.Spec PyProof.Rows L2

/-- an exception, in the heap that is seen -/
def RX (c : Cn) (ad : Ad) (Hf : Hp) (x : XC) (cls : Value) (dd : Option Addr) : Prop :=
  cls = .ref (c.cA x.c) ∧ (x.args = [] ∨ ∃ d a v, x.args = [d] ∧ dd = some a ∧ Hf a = some (.xd [(c.xf x.c, v)]) ∧ RVal c ad Hf d v)
def wpR {α : Type} (r : Res α) (P : α → LSt → Prop) (X : XC → LSt → Prop) : Prop := match r with
  | .ok a l => P a l
  | .ex x l => X x l
  | .bad => False
def PX (c : Ac) (W : WX) (σ : L2.St) (Hf : Hp) : XC → LSt → Prop := fun x l' => ∀ cls dd H' Hf', REnv c Hf' σ H' l' → Same Hf Hf' → RX c.toCn c.ad Hf' x cls dd → W cls dd σ H'
def PD (c : Ac) (σ : L2.St) (Q : VK) (Hf : Hp) : D → LSt → Prop := fun d l' => ∀ v H' Hf', REnv c Hf' σ H' l' → Same Hf Hf' → RVal c.toCn c.ad Hf' d v → Q v H'
def PB (c : Ac) (σ : L2.St) (Q : Bool → Hp → Prop) (Hf : Hp) : Bool → LSt → Prop := fun b l' => ∀ H' Hf', REnv c Hf' σ H' l' → Same Hf Hf' → Q b H'
def PA' (c : Ac) (σ : L2.St) (Q : List V → Hp → Prop) (Hf : Hp) : List D → LSt → Prop := fun ds l' => ∀ vs H' Hf', REnv c Hf' σ H' l' → Same Hf Hf' → RVals c.toCn c.ad Hf' ds vs → Q vs H'
/-- a fresh cell -/
def PO' (c : Ac) (σ : L2.St) (Q : VK) (Hf : Hp) : CO → LSt → Prop := fun co l' => ∀ a o H' Hf', REnv c Hf' σ H' l' → Same Hf Hf' → H' a = some o → RCO c.toCn c.ad Hf' co o → Hf' a = none → c.hid a = none → ¬ isD c.toCn l'.g c.ad a →
  (∀ (j : Nat) (s : Slot), l'.sl[j]? = some s → isOwn s = true → σ[j]? ≠ some (some (.ref a))) → Q (.ref a) H'
def tD (c : Ac) (W : WX) (f : LSt → Res D) : TE := fun σ H Q => ∃ Hf l, REnv c Hf σ H l ∧ wpR (f l) (PD c σ Q Hf) (PX c W σ Hf)
def tB (c : Ac) (W : WX) (f : LSt → Res Bool) : TT := fun σ H Q => ∃ Hf l, REnv c Hf σ H l ∧ wpR (f l) (PB c σ Q Hf) (PX c W σ Hf)
def tA (c : Ac) (W : WX) (f : LSt → Res (List D)) : TA := fun σ H Q => ∃ Hf l, REnv c Hf σ H l ∧ wpR (f l) (PA' c σ Q Hf) (PX c W σ Hf)
def tO (c : Ac) (W : WX) (f : LSt → Res CO) : TE := fun σ H Q => ∃ Hf l, REnv c Hf σ H l ∧ wpR (f l) (PO' c σ Q Hf) (PX c W σ Hf)
structure DE (X : Cx) (c : Ac) (W : WX) (e : Expr) (f : LSt → Res D) : Prop where pe : PE X e (tD c W f)
structure DT (X : Cx) (c : Ac) (W : WX) (e : Expr) (f : LSt → Res Bool) : Prop where pt : PT X e (tB c W f)
structure DA (X : Cx) (c : Ac) (W : WX) (es : List Expr) (f : LSt → Res (List D)) : Prop where pa : PA X es (tA c W f)
structure DO (X : Cx) (c : Ac) (W : WX) (e : Expr) (f : LSt → Res CO) : Prop where pe : PE X e (tO c W f)
/-- a test within and, or -/
structure DW (X : Cx) (c : Ac) (W : WX) (e : Expr) (f : LSt → Res Bool) : Prop where pw : PW X e (tB c W f)

theorem PX.mono {c : Ac} {W : WX} {σ : L2.St} {Hf Hf1 : Hp} (s : Same Hf Hf1) {x : XC} {l : LSt} (h : PX c W σ Hf x l) : PX c W σ Hf1 x l := fun cls dd H' Hf' R s' r => h cls dd H' Hf' R (s.trans s') r
/-- a wish that stands as more is seen -/
def Mono {α : Type} (P : Hp → α → LSt → Prop) : Prop := ∀ Hf Hf1, Same Hf Hf1 → ∀ a l, P Hf a l → P Hf1 a l
theorem PD.mo {c : Ac} {σ : L2.St} {Q : VK} : Mono (PD c σ Q) := fun _ _ s _ _ h v H' Hf' R s' r => h v H' Hf' R (s.trans s') r
theorem PB.mo {c : Ac} {σ : L2.St} {Q : Bool → Hp → Prop} : Mono (PB c σ Q) := fun _ _ s _ _ h H' Hf' R s' => h H' Hf' R (s.trans s')
theorem PA'.mo {c : Ac} {σ : L2.St} {Q : List V → Hp → Prop} : Mono (PA' c σ Q) := fun _ _ s _ _ h v H' Hf' R s' r => h v H' Hf' R (s.trans s') r
theorem PO'.mo {c : Ac} {σ : L2.St} {Q : VK} : Mono (PO' c σ Q) := fun _ _ s _ _ h a o H' Hf' R s' => h a o H' Hf' R (s.trans s')
theorem wpR.mono {α : Type} {P : Hp → α → LSt → Prop} (mo : Mono P) {c : Ac} {W : WX} {σ : L2.St} {Hf Hf1 : Hp} (s : Same Hf Hf1) : ∀ {r : Res α}, wpR r (P Hf) (PX c W σ Hf) → wpR r (P Hf1) (PX c W σ Hf1)
  | .ok a l, h => mo _ _ s a l h
  | .ex x l, h => PX.mono s h
  | .bad, h => h
section
variable {c : Ac} {W : WX} {Hf H : Hp} {σ : L2.St} {l : LSt} {β : Type} {P : Hp → β → LSt → Prop}
theorem run_bind {f : LSt → Res D} {k : D → LSt → Res β} {Q : VK} (mo : Mono P) (R : REnv c Hf σ H l) (h : wpR ((f l).bind k) (P Hf) (PX c W σ Hf))
    (hk : ∀ d l1 v H1 Hf1, REnv c Hf1 σ H1 l1 → Same Hf Hf1 → RVal c.toCn c.ad Hf1 d v → wpR (k d l1) (P Hf1) (PX c W σ Hf1) → Q v H1) : tD c W f σ H Q := by
  refine ⟨Hf, l, R, ?_⟩
  cases e : f l with
  | ok d l1 =>
    rw [e] at h
    exact fun v H1 Hf1 R1 s1 r1 => hk d l1 v H1 Hf1 R1 s1 r1 (wpR.mono mo s1 h)
  | ex x l1 =>
    rw [e] at h
    exact h
  | bad =>
    rw [e] at h
    exact h
theorem run_bindB {f : LSt → Res Bool} {k : Bool → LSt → Res β} {Q : Bool → Hp → Prop} (mo : Mono P) (R : REnv c Hf σ H l) (h : wpR ((f l).bind k) (P Hf) (PX c W σ Hf))
    (hk : ∀ d l1 H1 Hf1, REnv c Hf1 σ H1 l1 → Same Hf Hf1 → wpR (k d l1) (P Hf1) (PX c W σ Hf1) → Q d H1) : tB c W f σ H Q := by
  refine ⟨Hf, l, R, ?_⟩
  cases e : f l with
  | ok d l1 =>
    rw [e] at h
    exact fun H1 Hf1 R1 s1 => hk d l1 H1 Hf1 R1 s1 (wpR.mono mo s1 h)
  | ex x l1 =>
    rw [e] at h
    exact h
  | bad =>
    rw [e] at h
    exact h
theorem run_bindA {f : LSt → Res (List D)} {k : List D → LSt → Res β} {Q : List V → Hp → Prop} (mo : Mono P) (R : REnv c Hf σ H l) (h : wpR ((f l).bind k) (P Hf) (PX c W σ Hf))
    (hk : ∀ ds l1 vs H1 Hf1, REnv c Hf1 σ H1 l1 → Same Hf Hf1 → RVals c.toCn c.ad Hf1 ds vs → wpR (k ds l1) (P Hf1) (PX c W σ Hf1) → Q vs H1) : tA c W f σ H Q := by
  refine ⟨Hf, l, R, ?_⟩
  cases e : f l with
  | ok d l1 =>
    rw [e] at h
    exact fun v H1 Hf1 R1 s1 r1 => hk d l1 v H1 Hf1 R1 s1 r1 (wpR.mono mo s1 h)
  | ex x l1 =>
    rw [e] at h
    exact h
  | bad =>
    rw [e] at h
    exact h
theorem run_bindO {f : LSt → Res CO} {k : CO → LSt → Res β} {Q : VK} (mo : Mono P) (R : REnv c Hf σ H l) (h : wpR ((f l).bind k) (P Hf) (PX c W σ Hf))
    (hk : ∀ co l1, wpR (k co l1) (P Hf) (PX c W σ Hf) → PO' c σ Q Hf co l1) : tO c W f σ H Q := by
  refine ⟨Hf, l, R, ?_⟩
  cases e : f l with
  | ok d l1 =>
    rw [e] at h
    exact hk d l1 h
  | ex x l1 =>
    rw [e] at h
    exact h
  | bad =>
    rw [e] at h
    exact h
end
theorem _root_.L2.PE.imp' {X : Cx} {e : Expr} {t t' : TE} (p : PE X e t) (h : ∀ σ H Q, t' σ H Q → t σ H Q) : PE X e t' := ⟨fun pins s σ H Q I q => p.run pins s σ H Q I (h σ H Q q)⟩
theorem _root_.L2.PT.imp' {X : Cx} {e : Expr} {t t' : TT} (p : PT X e t) (h : ∀ σ H Q, t' σ H Q → t σ H Q) : PT X e t' := ⟨fun pins s σ H Q I q => p.run pins s σ H Q I (h σ H Q q)⟩
theorem _root_.L2.PW.imp' {X : Cx} {e : Expr} {t t' : TT} (p : PW X e t) (h : ∀ σ H Q, t' σ H Q → t σ H Q) : PW X e t' := ⟨fun w pins s σ H Q I q => p.run w pins s σ H Q I (h σ H Q q)⟩
theorem _root_.L2.PA.imp' {X : Cx} {e : List Expr} {t t' : TA} (p : PA X e t) (h : ∀ σ H Q, t' σ H Q → t σ H Q) : PA X e t' := ⟨fun ps pins s σ H Q I q => p.run ps pins s σ H Q I (h σ H Q q)⟩
theorem _root_.L2.PS.imp' {X : Cx} {e : Stmt} {t t' : TS} (p : PS X e t) (h : ∀ D σ H, t' D σ H → t D σ H) : PS X e t' := ⟨fun pins s σ H D I q => p.run pins s σ H D I (h D σ H q)⟩
theorem _root_.L2.PSs.imp' {X : Cx} {e : List Stmt} {t t' : TS} (p : PSs X e t) (h : ∀ D σ H, t' D σ H → t D σ H) : PSs X e t' := ⟨fun pins s σ H D I q => p.run pins s σ H D I (h D σ H q)⟩

/-! ### what is done, by data -/
def sC (d : D) : LSt → Res D := fun l => .ok d l
def sVar (i : Nat) : LSt → Res D := fun l => match l.sl[i]? with
  | some (.v d) => .ok d l
  | some (.own co) => .ok co.d (l.put i (.v co.d))
  | _ => .bad
def opt {α : Type} (o : Option α) (l : LSt) : Res α := match o with
  | some d => .ok d l
  | none => .bad
def sBin (g : D → D → Option D) (a b : LSt → Res D) : LSt → Res D := fun l => (a l).bind fun x l => (b l).bind fun y l => opt (g x y) l
def sUn (g : D → Option D) (a : LSt → Res D) : LSt → Res D := fun l => (a l).bind fun x l => opt (g x) l

section
variable {X : Cx} {c : Ac} {W : WX} {a b e : Expr} {pos : Pos} {fa fb : LSt → Res D}
theorem de_flat {v : V} {d : D} (p : PE X e (tC v)) (r : ∀ Hf, RVal c.toCn c.ad Hf d v) : DE X c W e (sC d) :=
  ⟨p.imp' fun σ H Q ⟨Hf, l, R, h⟩ => h v H Hf R (Same.refl _) (r Hf)⟩
theorem de_int {i : Int} {j : Nat} : DE X c W (.Constant (.int i) j pos) (sC (.int i)) := de_flat pe_int fun _ => rfl
theorem de_bl {i : Bool} {j : Nat} : DE X c W (.Constant (.bool i) j pos) (sC (.bl i)) := de_flat pe_bl fun _ => rfl
theorem de_non {j : Nat} : DE X c W (.Constant .none j pos) (sC .non) := de_flat pe_non fun _ => rfl
theorem de_str {x : Str} {j : Nat} : DE X c W (.Constant (.str x) j pos) (sC (.str x)) := de_flat pe_str fun _ => rfl
/-- a cell that becomes data is locked -/
theorem pe_fz {t : TE} (h : PE X e t) : PE X e (fun σ H Q => t σ H (LkP Q)) := ⟨fun pins s σ H Q I hw => thn (h.run pins s σ H _ I hw) fun v s1 ⟨x, H1, I1, r, q⟩ => by
  rcases q with q | ⟨d, u, ev, hd, mu, q⟩
  · exact ⟨x, H1, I1, r, q⟩
  · obtain ⟨od, I2⟩ := I1.lock hd mu
    exact ⟨x, _, I2, r, q od⟩⟩
theorem de_var {i : Nat} {x : Str} (p : PE X (.Name x pos) (tVar i)) : DE X c W (.Name x pos) (sVar i) :=
  ⟨(pe_fz p).imp' fun σ H Q ⟨Hf, l, R, h⟩ => by
    unfold sVar at h
    cases e : l.sl[i]? with
    | none =>
      rw [e] at h
      exact h.elim
    | some s =>
      rw [e] at h
      cases s with
      | un => exact h.elim
      | slf => exact h.elim
      | fn => exact h.elim
      | er _ _ => exact h.elim
      | v d =>
        obtain ⟨v, ev, r⟩ := R.val e
        exact ⟨v, ev, .inl (h v H Hf R (Same.refl _) r)⟩
      | own co =>
        obtain ⟨a, o, ev, ha, rc, n, q⟩ := R.freeze e
        exact ⟨.ref a, ev, rc.lkp ha fun od => h _ _ _ (q od).1 (same_upd n) (q od).2⟩⟩
/-- an operation by values is one by data -/
def BinOk (c : Ac) (r : R2) (g : D → D → Option D) : Prop :=
  ∀ (Hf H : Hp) (σ : L2.St) (l : LSt) (d1 d2 d : D) (x y : V) (Q : VK), REnv c Hf σ H l → RVal c.toCn c.ad Hf d1 x → RVal c.toCn c.ad Hf d2 y → g d1 d2 = some d → PD c σ Q Hf d l → r x y H Q
theorem bin_run {r : R2} {g : D → D → Option D} (ok : BinOk c r g) (ha : ∀ σ H Q, tD c W fa σ H Q → True) {σ : L2.St} {H : Hp} {Q : VK} (h : tD c W (sBin g fa fb) σ H Q) : tOp r (tD c W fa) (tD c W fb) σ H Q := by
  obtain ⟨Hf, l, R, h⟩ := h
  refine run_bind PD.mo R h fun d1 l1 x H1 Hf1 R1 s1 r1 h1 => ?_
  refine run_bind PD.mo R1 h1 fun d2 l2 y H2 Hf2 R2 s2 r2 h2 => ?_
  cases e : g d1 d2 with
  | none =>
    rw [e] at h2
    exact h2.elim
  | some d =>
    rw [e] at h2
    exact ok Hf2 H2 σ l2 d1 d2 d x y Q R2 (r1.mono s2) r2 e h2
theorem de_op {op : Operator} {r : R2} {g : D → D → Option D} (ho : OpR X (binaryOp op) r) (ok : BinOk c r g) (ha : DE X c W a fa) (hb : DE X c W b fb) : DE X c W (.BinOp a op b pos) (sBin g fa fb) :=
  ⟨(pe_op ho ha.pe hb.pe).imp' fun _ _ _ h => bin_run ok (fun _ _ _ _ => True.intro) h⟩
theorem de_cmp {op : CmpOp} {r : R2} {g : D → D → Option D} (ho : OpR X (compareOp op) r) (ok : BinOk c r g) (ha : DE X c W a fa) (hb : DE X c W b fb) (hm : behindInMarks op b = false) : DE X c W (.Compare a [op] [b] pos) (sBin g fa fb) :=
  ⟨(pe_cmpR ho ha.pe hb.pe hm).imp' fun _ _ _ h => bin_run ok (fun _ _ _ _ => True.intro) h⟩
def UnOk (c : Ac) (r : V → Hp → VK → Prop) (g : D → Option D) : Prop :=
  ∀ (Hf H : Hp) (σ : L2.St) (l : LSt) (d1 d : D) (x : V) (Q : VK), REnv c Hf σ H l → RVal c.toCn c.ad Hf d1 x → g d1 = some d → PD c σ Q Hf d l → r x H Q
theorem un_run {r : V → Hp → VK → Prop} {g : D → Option D} (ok : UnOk c r g) {σ : L2.St} {H : Hp} {Q : VK} (h : tD c W (sUn g fa) σ H Q) : tD c W fa σ H fun x H1 => r x H1 Q := by
  obtain ⟨Hf, l, R, h⟩ := h
  refine run_bind PD.mo R h fun d1 l1 x H1 Hf1 R1 s1 r1 h1 => ?_
  cases e : g d1 with
  | none =>
    rw [e] at h1
    exact h1.elim
  | some d =>
    rw [e] at h1
    exact ok Hf1 H1 σ l1 d1 d x Q R1 r1 e h1
theorem de_un {op : UnaryOp} {r : V → Hp → VK → Prop} {g : D → Option D} (ho : UnR X (unaryOp op) r) (ok : UnOk c r g) (ha : DE X c W a fa) : DE X c W (.UnaryOp op a pos) (sUn g fa) :=
  ⟨(pe_un ho ha.pe).imp' fun _ _ _ h => un_run ok h⟩
end
end Dx

/-! Dx.Ops: the operators, the subscripts and the built-in functions, by data. -/
namespace Dx
open PySem PySem.Spec PyProof.Rows L2

abbrev szL : Nat := 16777216
theorem szL_eq : szL = sizeLine := sizeLine_eq.symm
section
variable {c : Ac} {Hf H : Hp} {σ : L2.St} {l : LSt} {Q : VK}
theorem PD.flat {v : V} {d : D} (R : REnv c Hf σ H l) (q : PD c σ Q Hf d l) (r : RVal c.toCn c.ad Hf d v) : Q v H := q v H Hf R (Same.refl _) r
/-- a new object of the call's own, seen at once -/
theorem PD.new {p : Addr} {o : HO} {d : D} (R : REnv c Hf σ H l) (q : PD c σ Q Hf d l) (n : H p = none) (r : RVal c.toCn c.ad (upd Hf p o) d (.ref p)) : Q (.ref p) (upd H p o) :=
  q _ _ _ (R.alloc n) (same_upd (R.free n)) r
theorem RVal.tupNew {p : Addr} {ds : List D} {vs : List V} {cn : Cn} {ad : Ad} (n : Hf p = none) (r : RVals cn ad Hf ds vs) : RVal cn ad (upd Hf p (.tup vs)) (.tup ds) (.ref p) :=
  ⟨p, vs, rfl, .inl (.inl upd_same), r.mono (same_upd n)⟩
theorem RVal.lstNew {p : Addr} {ds : List D} {vs : List V} {cn : Cn} {ad : Ad} (n : Hf p = none) (r : RVals cn ad Hf ds vs) : RVal cn ad (upd Hf p (.lst vs)) (.lst ds) (.ref p) :=
  ⟨p, vs, rfl, upd_same, r.mono (same_upd n)⟩
theorem PD.mo' {Hf1 : Hp} {d : D} (s : Same Hf Hf1) (q : PD c σ Q Hf d l) : PD c σ Q Hf1 d l := PD.mo _ _ s _ _ q
end

/-! ### + - * // % ** -/
def mulOkB (i j : Int) : Bool := !(decide (Builtin.Int.intBits i > 64) && decide (Builtin.Int.intBits j > 64) && decide (Builtin.Int.intBits i + Builtin.Int.intBits j > 134217728))
theorem mulOk_of {i j : Int} (h : mulOkB i j = true) : IntMulOk i j := by
  unfold IntMulOk Builtin.Int.intTooBig
  unfold mulOkB at h
  intro z
  rw [show shortFactorBits = 64 from rfl] at z
  have e : bitsLine = 134217728 := by decide
  rw [e] at z
  simp only [Bool.and_eq_true, decide_eq_true_eq] at z
  simp only [Bool.not_eq_true', Bool.and_eq_false_iff, decide_eq_false_iff_not] at h
  omega
def addD : D → D → Option D
  | .int i, .int j => some (.int (i + j))
  | .int i, .bl k => some (.int (i + if k then 1 else 0))
  | .str x, .str y => if x.length + y.length ≤ szL then some (.str (x ++ y)) else none
  | .lst a, .lst b => if a.length + b.length ≤ szL then some (.lst (a ++ b)) else none
  | .tup a, .tup b => if a.length + b.length ≤ szL then some (.tup (a ++ b)) else none
  | _, _ => none
def subD : D → D → Option D
  | .int i, .int j => some (.int (i - j))
  | _, _ => none
def flatRep (k : Int) (a : List D) : List D := (List.replicate k.toNat a).flatten
def mulD : D → D → Option D
  | .int i, .int j => if mulOkB i j = true then some (.int (i * j)) else none
  | .lst a, .int k => if -(2 ^ 63) ≤ k ∧ k < 2 ^ 63 ∧ a.length * k.toNat ≤ szL then some (.lst (flatRep k a)) else none
  | .tup a, .int k => if a ≠ [] ∧ 2 ≤ k ∧ k ≤ 1000 ∧ a.length ≤ 1000 then some (.tup (flatRep k a)) else none
  | _, _ => none
def divD : D → D → Option D
  | .int i, .int j => if 0 < j ∧ j.natAbs.log2 < 9000 then some (.int (i / j)) else if j ≠ 0 ∧ j.natAbs.log2 < 9000 then some (.int (i.fdiv j)) else none
  | _, _ => none
def modD : D → D → Option D
  | .int i, .int j => if 0 < j then some (.int (i % j)) else if j ≠ 0 then some (.int (i.fmod j)) else none
  | _, _ => none
def powD : D → D → Option D
  | .int i, .int j => if 0 ≤ j ∧ j ≤ 1000000 ∧ i.natAbs < 2 ^ 64 then some (.int (i ^ j.toNat)) else none
  | _, _ => none

def rCatA (K : PySem.W.Frag) : R2 := fun x y H Q => ∃ a b xs ys, x = .ref a ∧ y = .ref b ∧ SqT K H a xs ∧ SqT K H b ys ∧ xs.length + ys.length ≤ sizeLine ∧
  (xs = [] → Q (.ref b) H) ∧ (xs ≠ [] → ys = [] → Q (.ref a) H) ∧ (xs ≠ [] → ys ≠ [] → ∀ p, H p = none → Q (.ref p) (upd H p (.tup (xs ++ ys))))
section
variable {X : Cx}
theorem op_catA : OpR X (binaryOp .Add) (rCatA X.K) := by
  intro pins s σ H x y v u Q I rx ry h
  obtain ⟨a, b, xs, ys, rfl, rfl, ha, hb, hz, q0, q1, q2⟩ := h
  by_cases hx : xs = []
  · subst hx
    cases rx
    cases ry
    obtain ⟨its, r, ht, _⟩ := I.tuple ha
    obtain ⟨its2, r2, ht2, _⟩ := I.tuple hb
    cases r
    exact cat_tup0 ht ht2 ⟨.ref b, H, I, rfl, q0 rfl⟩
  · exact op_catT pins s σ H _ _ v u Q I rx ry ⟨a, b, xs, ys, rfl, rfl, ha, hb, hx, hz, q1 hx, q2 hx⟩
def rAddA (K : PySem.W.Frag) : R2 := fun x y H Q => (∃ i j, x = .int i ∧ y = .int j ∧ Q (.int (i + j)) H) ∨ ((∃ i k, x = .int i ∧ y = .bl k ∧ Q (.int (i + b2i k)) H) ∨
  ((∃ i j, x = .str i ∧ y = .str j ∧ i.length + j.length ≤ sizeLine ∧ Q (.str (i ++ j)) H) ∨ (rCat x y H Q ∨ rCatA K x y H Q)))
theorem op_addA : OpR X (binaryOp .Add) (rAddA X.K) := op_add.or (op_add_ib.or (op_add_str.or (op_cat.or op_catA)))
def rMulA (K : PySem.W.Frag) : R2 := fun x y H Q => rI IntMulOk (fun i j => .int (i * j)) x y H Q ∨ (rRep x y H Q ∨ rRepT K x y H Q)
theorem op_mulI : OpR X (binaryOp .Mult) (rI IntMulOk fun i j => .int (i * j)) := opI fun _ _ _ _ _ _ _ hc q => mul_int q hc
theorem op_mulA : OpR X (binaryOp .Mult) (rMulA X.K) := op_mulI.or (op_rep.or op_repT)
def CDivA (i j : Int) : Prop := j ≠ 0 ∧ j.natAbs.log2 < 9000
theorem op_divA : OpR X (binaryOp .FloorDiv) (rI CDivA fun i j => .int (i.fdiv j)) := opI fun i j _ _ _ _ _ hc q => floordiv_int hc.1 q (.inl (PyProof.noPylong_of_log2 hc.2))
end
section
variable {c : Ac}
theorem ok_add (hK : ∃ K, c.K = K) : BinOk c (rAddA c.K) addD := by
  intro Hf H σ l d1 d2 d x y Q R r1 r2 e q
  cases d1 <;> cases d2 <;> simp only [addD, reduceCtorEq] at e
  · cases e
    rename_i i k
    exact .inr (.inl ⟨i, k, r1, r2, q.flat R (by cases k <;> rfl)⟩)
  · cases e
    rename_i i j
    exact .inl ⟨i, j, r1, r2, q.flat R rfl⟩
  · rename_i i j
    split at e
    · rename_i hz
      cases e
      exact .inr (.inr (.inl ⟨i, j, r1, r2, by rw [← szL_eq]; exact hz, q.flat R rfl⟩))
    · cases e
  · rename_i i j
    split at e
    · rename_i hz
      cases e
      obtain ⟨a, xs, rfl, h1, v1⟩ := r1
      obtain ⟨b, ys, rfl, h2, v2⟩ := r2
      rw [v1.length, v2.length] at hz
      refine .inr (.inr (.inr (.inr ⟨a, b, xs, ys, rfl, rfl, sameT R.sub h1, sameT R.sub h2, by rw [← szL_eq]; exact hz, fun z => ?_, fun _ z => ?_, fun _ _ p n => ?_⟩)))
      · subst z
        have := v1.length
        have e1 : i = [] := List.length_eq_zero_iff.mp this
        subst e1
        exact q.flat R ⟨b, ys, rfl, h2, v2⟩
      · subst z
        have := v2.length
        have e1 : j = [] := List.length_eq_zero_iff.mp this
        subst e1
        rw [List.append_nil] at q
        exact q.flat R ⟨a, xs, rfl, h1, v1⟩
      · exact q.new R n (RVal.tupNew (R.free n) (v1.append v2))
    · cases e
  · rename_i i j
    split at e
    · rename_i hz
      cases e
      obtain ⟨a, xs, rfl, h1, v1⟩ := r1
      obtain ⟨b, ys, rfl, h2, v2⟩ := r2
      rw [v1.length, v2.length] at hz
      exact .inr (.inr (.inr (.inl ⟨a, b, xs, ys, rfl, rfl, R.sub _ _ h1, R.sub _ _ h2, by rw [← szL_eq]; exact hz, fun p n => q.new R n (RVal.lstNew (R.free n) (v1.append v2))⟩)))
    · cases e
theorem ok_sub : BinOk c (rI0 fun i j => .int (i - j)) subD := by
  intro Hf H σ l d1 d2 d x y Q R r1 r2 e q
  cases d1 <;> cases d2 <;> simp only [subD, reduceCtorEq] at e
  cases e
  exact ⟨_, _, r1, r2, q.flat R rfl⟩
theorem flatRep_vals {cn : Cn} {ad : Ad} {H : Hp} {ds : List D} {vs : List V} (r : RVals cn ad H ds vs) : ∀ n : Nat, RVals cn ad H (List.replicate n ds).flatten (List.replicate n vs).flatten
  | 0 => rfl
  | n + 1 => by
    rw [List.replicate_succ, List.replicate_succ, List.flatten_cons, List.flatten_cons]
    exact r.append (flatRep_vals r n)
theorem ok_mul : BinOk c (rMulA c.K) mulD := by
  intro Hf H σ l d1 d2 d x y Q R r1 r2 e q
  cases d1 <;> cases d2 <;> simp only [mulD, reduceCtorEq] at e
  · split at e
    · rename_i hz
      cases e
      exact .inl ⟨_, _, r1, r2, mulOk_of hz, q.flat R rfl⟩
    · cases e
  · rename_i i j
    split at e
    · rename_i hz
      cases e
      obtain ⟨a, xs, rfl, h1, v1⟩ := r1
      refine .inr (.inr ⟨a, j, xs, rfl, r2, sameT R.sub h1, fun z => ?_, hz.2.1, hz.2.2.1, by rw [← v1.length]; exact hz.2.2.2, fun p n => q.new R n (RVal.tupNew (R.free n) (flatRep_vals v1 _))⟩)
      subst z
      exact hz.1 (List.length_eq_zero_iff.mp v1.length)
    · cases e
  · rename_i i j
    split at e
    · rename_i hz
      cases e
      obtain ⟨a, xs, rfl, h1, v1⟩ := r1
      exact .inr (.inl ⟨a, j, xs, rfl, r2, R.sub _ _ h1, hz.1, hz.2.1, by rw [← szL_eq, ← v1.length]; exact hz.2.2, fun p n => q.new R n (RVal.lstNew (R.free n) (flatRep_vals v1 _))⟩)
    · cases e
theorem ok_div : BinOk c (rI CDivA fun i j => .int (i.fdiv j)) divD := by
  intro Hf H σ l d1 d2 d x y Q R r1 r2 e q
  cases d1 <;> cases d2 <;> simp only [divD, reduceCtorEq] at e
  rename_i i j
  split at e
  · rename_i hz
    cases e
    refine ⟨i, j, r1, r2, ⟨by omega, hz.2⟩, q.flat R ?_⟩
    show V.int (i.fdiv j) = V.int (i / j)
    rw [Int.fdiv_eq_ediv_of_nonneg i (by omega)]
  · split at e
    · rename_i hz
      cases e
      exact ⟨i, j, r1, r2, hz, q.flat R rfl⟩
    · cases e
theorem ok_mod : BinOk c (rI (fun _ j => j ≠ 0) fun i j => .int (i.fmod j)) modD := by
  intro Hf H σ l d1 d2 d x y Q R r1 r2 e q
  cases d1 <;> cases d2 <;> simp only [modD, reduceCtorEq] at e
  rename_i i j
  split at e
  · rename_i hz
    cases e
    refine ⟨i, j, r1, r2, by omega, q.flat R ?_⟩
    show V.int (i.fmod j) = V.int (i % j)
    rw [Int.fmod_eq_emod_of_nonneg i (by omega)]
  · split at e
    · rename_i hz
      cases e
      exact ⟨i, j, r1, r2, hz, q.flat R rfl⟩
    · cases e
theorem ok_pow : BinOk c (rI CPow fun i j => .int (i ^ j.toNat)) powD := by
  intro Hf H σ l d1 d2 d x y Q R r1 r2 e q
  cases d1 <;> cases d2 <;> simp only [powD, reduceCtorEq] at e
  split at e
  · rename_i hz
    cases e
    exact ⟨_, _, r1, r2, hz, q.flat R rfl⟩
  · cases e
def negD : D → Option D
  | .int i => some (.int (-i))
  | _ => none
theorem ok_neg : UnOk c (rU fun i => .int (-i)) negD := by
  intro Hf H σ l d1 d x Q R r1 e q
  cases d1 <;> simp only [negD, reduceCtorEq] at e
  cases e
  exact ⟨_, r1, q.flat R rfl⟩
end

/-! ### comparisons -/
mutual
def D.pd : D → Option PyData
  | .non => some .none
  | .bl b => some (.bool b)
  | .int i => some (.int i)
  | .str x => some (.str x)
  | .tup ds => (D.pds ds).map .tuple
  | .lst ds => (D.pds ds).map .list
  | _ => none
def D.pds : List D → Option (List PyData)
  | [] => some []
  | d :: ds => match d.pd, D.pds ds with
    | some x, some xs => some (x :: xs)
    | _, _ => none
end
mutual
theorem pd_dp {cn : Cn} {ad : Ad} {H : Hp} : ∀ (d : D) (v : V) (p : PyData), RVal cn ad H d v → d.pd = some p → Dp cn.K H v p
  | .non, _, _, r, e => by
    simp only [D.pd] at e
    cases e
    cases r
    exact .non
  | .bl b, _, _, r, e => by
    simp only [D.pd] at e
    cases e
    cases r
    exact .bl b
  | .int i, _, _, r, e => by
    simp only [D.pd] at e
    cases e
    cases r
    exact .int i
  | .str i, _, _, r, e => by
    simp only [D.pd] at e
    cases e
    cases r
    exact .str i
  | .tup ds, _, p, ⟨a, vs, q, h, t⟩, e => by
    simp only [D.pd, Option.map_eq_some_iff] at e
    obtain ⟨ps, e1, e2⟩ := e
    subst e2 q
    exact .tup h (pds_dp ds vs ps t e1)
  | .lst ds, _, p, ⟨a, vs, q, h, t⟩, e => by
    simp only [D.pd, Option.map_eq_some_iff] at e
    obtain ⟨ps, e1, e2⟩ := e
    subst e2 q
    exact .lst (SqL.of h) (pds_dp ds vs ps t e1)
  | .dK _ _, _, _, _, e => by simp [D.pd] at e
  | .dT _ _, _, _, _, e => by simp [D.pd] at e
  | .ins _ _, _, _, _, e => by simp [D.pd] at e
  | .scr _, _, _, _, e => by simp [D.pd] at e
  | .ty _, _, _, _, e => by simp [D.pd] at e
  | .glo _, _, _, _, e => by simp [D.pd] at e
  | .dice, _, _, _, e => by simp [D.pd] at e

theorem pds_dp {cn : Cn} {ad : Ad} {H : Hp} : ∀ (ds : List D) (vs : List V) (ps : List PyData), RVals cn ad H ds vs → D.pds ds = some ps → DpAll cn.K H vs ps
  | [], _, _, r, e => by
    simp only [D.pds] at e
    cases e
    cases (show _ = [] from r)
    exact .nil
  | d :: ds, _, ps, ⟨v, r, q, h, t⟩, e => by
    subst q
    simp only [D.pds] at e
    split at e
    · rename_i x xs e1 e2
      cases e
      exact .cons (pd_dp d v x h e1) (pds_dp ds r xs t e2)
    · cases e
end
def eqD (d e : D) : Option D := match d.pd, e.pd with
  | some p, some q => if SeqAt.shaped p = true ∧ SeqAt.shaped q = true then some (.bl (PyData.eqv p q)) else none
  | _, _ => none
def neD (d e : D) : Option D := match d.pd, e.pd with
  | some p, some q => if SeqAt.shaped p = true ∧ SeqAt.shaped q = true then some (.bl (!PyData.eqv p q)) else none
  | _, _ => none
section
variable {c : Ac}
theorem ok_eq : BinOk c (rEqD c.K) eqD := by
  intro Hf H σ l d1 d2 d x y Q R r1 r2 e q
  unfold eqD at e
  split at e
  · rename_i p p2 e1 e2
    split at e
    · rename_i hz
      cases e
      exact ⟨p, p2, pd_dp _ _ _ (r1.mono R.sub) e1, pd_dp _ _ _ (r2.mono R.sub) e2, hz.1, hz.2, q.flat R rfl⟩
    · cases e
  · cases e
theorem ok_ne : BinOk c (rNeD c.K) neD := by
  intro Hf H σ l d1 d2 d x y Q R r1 r2 e q
  unfold neD at e
  split at e
  · rename_i p p2 e1 e2
    split at e
    · rename_i hz
      cases e
      exact ⟨p, p2, pd_dp _ _ _ (r1.mono R.sub) e1, pd_dp _ _ _ (r2.mono R.sub) e2, hz.1, hz.2, q.flat R rfl⟩
    · cases e
  · cases e
def cmpI (g : Int → Int → Bool) : D → D → Option D
  | .int i, .int j => some (.bl (g i j))
  | _, _ => none
theorem ok_cmpI {g : Int → Int → Bool} : BinOk c (rI0 fun i j => .bl (g i j)) (cmpI g) := by
  intro Hf H σ l d1 d2 d x y Q R r1 r2 e q
  cases d1 <;> cases d2 <;> simp only [cmpI, reduceCtorEq] at e
  cases e
  exact ⟨_, _, r1, r2, q.flat R rfl⟩
abbrev ltD := cmpI fun i j => decide (i < j)
abbrev leD := cmpI fun i j => decide (i ≤ j)
abbrev gtD := cmpI fun i j => decide (j < i)
abbrev geD := cmpI fun i j => decide (j ≤ i)
def isND : D → D → Option D
  | .non, .non => some (.bl true)
  | _, .non => some (.bl false)
  | _, _ => none
def notND : D → D → Option D
  | .non, .non => some (.bl false)
  | _, .non => some (.bl true)
  | _, _ => none
theorem RVal.nonIff {cn : Cn} {ad : Ad} {H : Hp} {d : D} {v : V} (r : RVal cn ad H d v) : (v = .non) ↔ (d = .non) := by
  constructor
  · intro e
    subst e
    cases d with
    | non => rfl
    | bl _ => cases (show V.non = V.bl _ from r)
    | int _ => cases (show V.non = V.int _ from r)
    | str _ => cases (show V.non = V.str _ from r)
    | tup _ => obtain ⟨_, _, e, _⟩ := r; cases e
    | lst _ => obtain ⟨_, _, e, _⟩ := r; cases e
    | dK _ _ => obtain ⟨_, _, _, e, _⟩ := r; cases e
    | dT _ _ => obtain ⟨_, _, _, e, _⟩ := r; cases e
    | ins _ _ => obtain ⟨_, _, _, e, _⟩ := r; cases e
    | scr _ => obtain ⟨_, e, _⟩ := r; cases e
    | ty _ => cases (show V.non = V.ty _ from r)
    | glo _ => cases (show V.non = V.ref _ from r)
    | dice => cases (show V.non = V.ref _ from r)
    | rng _ _ => obtain ⟨_, e, _⟩ := r; cases e

  · intro e
    subst e
    exact r
theorem ok_isN : BinOk c (fun x y H Q => y = .non ∧ Q (.bl (decide (x = .non))) H) isND := by
  intro Hf H σ l d1 d2 d x y Q R r1 r2 e q
  cases d2 with
  | non =>
    refine ⟨r2, q.flat R ?_⟩
    have i := r1.nonIff
    cases d1 <;> (simp only [isND] at e; cases e; show V.bl _ = V.bl _; congr 1; simp [i])
  | _ => cases d1 <;> simp [isND] at e
theorem ok_notN : BinOk c (fun x y H Q => y = .non ∧ Q (.bl (!decide (x = .non))) H) notND := by
  intro Hf H σ l d1 d2 d x y Q R r1 r2 e q
  cases d2 with
  | non =>
    refine ⟨r2, q.flat R ?_⟩
    have i := r1.nonIff
    cases d1 <;> (simp only [notND] at e; cases e; show V.bl _ = V.bl _; congr 1; simp [i])
  | _ => cases d1 <;> simp [notND] at e
end

/-! ### o[i] -/
def atD {α : Type} (xs : List α) (i : Int) : Option α := if 0 ≤ i then xs[i.toNat]? else if -(xs.length : Int) ≤ i then xs[(i + xs.length).toNat]? else none
theorem atD_atI {α : Type} {xs : List α} {i : Int} : atI xs i = atD xs i := by
  unfold atI atD ixN
  split
  · split
    · rfl
    · rename_i h1 h2
      rw [List.getElem?_eq_none (by omega)]
      rfl
  · split <;> rfl
def ixD : D → D → Option D
  | .tup ds, .int i => atD ds i
  | .lst ds, .int i => atD ds i
  | .scr ns, .int i => (atD ns i).map .int
  | .str z, .int i => if z.length ≤ szL then (atD z.cps.toList i).map fun c => .str ⟨#[c]⟩ else none
  | _, _ => none
theorem RVals.atD {cn : Cn} {ad : Ad} {H : Hp} {ds : List D} {vs : List V} {i : Int} {d : D} (r : RVals cn ad H ds vs) (e : atD ds i = some d) : ∃ v, atI vs i = some v ∧ RVal cn ad H d v := by
  rw [atD_atI]
  unfold Dx.atD at e ⊢
  rw [← r.length]
  split at e
  · rename_i h
    rw [if_pos h]
    exact r.get e
  · rename_i h
    rw [if_neg h]
    split at e
    · rename_i h2
      rw [if_pos h2]
      exact r.get e
    · cases e
section
variable {c : Ac}
theorem ok_ix : BinOk c (rIx c.K) ixD := by
  intro Hf H σ l d1 d2 d x y Q R r1 r2 e q
  cases d1 <;> cases d2 <;> simp only [ixD, reduceCtorEq] at e
  · split at e
    · rename_i hz
      rw [Option.map_eq_some_iff] at e
      obtain ⟨k, e1, e2⟩ := e
      subst e2
      exact .inr (.inr ⟨_, _, k, r1, r2, by rw [← szL_eq]; exact hz, by rw [atD_atI]; exact e1, q.flat R rfl⟩)
    · cases e
  · obtain ⟨a, vs, rfl, h, t⟩ := r1
    obtain ⟨v, e1, e2⟩ := t.atD e
    exact .inr (.inl ⟨a, vs, _, v, rfl, r2, sameT R.sub h, e1, q.flat R e2⟩)
  · obtain ⟨a, vs, rfl, h, t⟩ := r1
    obtain ⟨v, e1, e2⟩ := t.atD e
    exact .inl ⟨a, vs, _, v, rfl, r2, SqL.of (R.sub _ _ h), e1, q.flat R e2⟩
  · obtain ⟨a, rfl, h⟩ := r1
    rw [Option.map_eq_some_iff] at e
    obtain ⟨k, e1, e2⟩ := e
    subst e2
    rename_i ns i
    refine .inl ⟨a, ns.map V.int, i, .int k, rfl, r2, R.sub.seq h, ?_, q.flat R rfl⟩
    rw [atD_atI]
    unfold atD at e1 ⊢
    rw [List.length_map]
    split at e1
    · rename_i h1
      rw [if_pos h1, List.getElem?_map, e1]
      rfl
    · rename_i h1
      rw [if_neg h1]
      split at e1
      · rename_i h2
        rw [if_pos h2, List.getElem?_map, e1]
        rfl
      · cases e1
variable {X : Cx} {W : WX} {a b : Expr} {pos : Pos} {fa fb : LSt → Res D}
theorem de_ix (hK : X.K = c.K) (ha : DE X c W a fa) (hb : DE X c W b fb) (hs : PlainIx b) : DE X c W (.Subscript a b pos) (sBin ixD fa fb) :=
  ⟨(pe_ix (hK ▸ ix_seq) ha.pe hb.pe hs).imp' fun _ _ _ h => bin_run ok_ix (fun _ _ _ _ => True.intro) h⟩
end
end Dx

/-! Dx.Calls: tests, argument lists, displays, calls; what a def promises by data. -/
namespace Dx
open PySem PySem.Spec PyProof.Rows L2

/-! ### tests -/
def truD : D → Option Bool
  | .non => some false
  | .bl b => some b
  | .int i => some (i != 0)
  | .str y => if y.length ≤ szL then some ((y.length : Int) != 0) else none
  | .tup ds => some (!ds.isEmpty)
  | .lst ds => some (!ds.isEmpty)
  | _ => none
def sTru (a : LSt → Res D) : LSt → Res Bool := fun l => (a l).bind fun d l => opt (truD d) l
def blD : D → Option Bool
  | .bl b => some b
  | _ => none
def sTst (a : LSt → Res D) : LSt → Res Bool := fun l => (a l).bind fun d l => opt (blD d) l
def sNot (a : LSt → Res Bool) : LSt → Res Bool := fun l => (a l).bind fun b l => .ok (!b) l
def sAnd (a b : LSt → Res Bool) : LSt → Res Bool := fun l => (a l).bind fun x l => if x = true then b l else .ok false l
def sOr (a b : LSt → Res Bool) : LSt → Res Bool := fun l => (a l).bind fun x l => if x = true then .ok true l else b l
def sIf {α : Type} (t : LSt → Res Bool) (a b : LSt → Res α) : LSt → Res α := fun l => (t l).bind fun x l => if x = true then a l else b l
def sVal (a : LSt → Res Bool) : LSt → Res D := fun l => (a l).bind fun b l => .ok (.bl b) l
theorem isEmpty_len {α β : Type} {xs : List α} {ys : List β} (h : xs.length = ys.length) : (!xs.isEmpty) = !ys.isEmpty := by
  cases xs <;> cases ys <;> first | rfl | (simp at h)
section
variable {c : Ac} {W : WX}
theorem tru_run {K : PySem.W.Frag} (hK : K = c.K) {fa : LSt → Res D} {σ : L2.St} {H : Hp} {Q : Bool → Hp → Prop} (h : tB c W (sTru fa) σ H Q) : tD c W fa σ H fun x H' => ∃ k, TruV K x H' k ∧ Q k H' := by
  subst hK
  obtain ⟨Hf, l, R, h⟩ := h
  refine run_bind PB.mo R h fun d l1 v H1 Hf1 R1 s1 r1 h1 => ?_
  cases e : truD d with
  | none =>
    rw [e] at h1
    exact h1.elim
  | some b =>
    rw [e] at h1
    refine ⟨b, ?_, h1 H1 Hf1 R1 (Same.refl _)⟩
    cases d <;> simp only [truD, reduceCtorEq] at e
    · cases r1
      cases e
      rfl
    · cases r1
      cases e
      rfl
    · cases r1
      cases e
      rfl
    · split at e
      · rename_i hz
        cases r1
        cases e
        exact ⟨by rw [← szL_eq]; exact hz, rfl⟩
      · cases e
    · cases e
      obtain ⟨a, vs, rfl, h2, t⟩ := r1
      exact .inr (.inl ⟨vs, sameT R1.sub h2, isEmpty_len t.length⟩)
    · cases e
      obtain ⟨a, vs, rfl, h2, t⟩ := r1
      exact .inl ⟨vs, SqL.of (R1.sub _ _ h2), isEmpty_len t.length⟩
theorem tst_run {fa : LSt → Res D} {σ : L2.St} {H : Hp} {Q : Bool → Hp → Prop} (h : tB c W (sTst fa) σ H Q) : tD c W fa σ H fun x H' => ∃ k, x = .bl k ∧ Q k H' := by
  obtain ⟨Hf, l, R, h⟩ := h
  refine run_bind PB.mo R h fun d l1 v H1 Hf1 R1 s1 r1 h1 => ?_
  cases d with
  | bl b => exact ⟨b, r1, h1 H1 Hf1 R1 (Same.refl _)⟩
  | _ => exact h1.elim
end
section
variable {X : Cx} {c : Ac} {W : WX} {a b e : Expr} {pos : Pos} {fa fb : LSt → Res D} {ta tb : LSt → Res Bool} {rest : List Expr}
theorem dt_tru (hK : X.K = c.K) (ha : DE X c W a fa) (he : ∀ whole, isTrue a X.env whole = (do let v ← whole; standAt a.pos; holding [v] (truthy v))) : DT X c W a (sTru fa) :=
  ⟨(pt_truth ha.pe he).imp' fun _ _ _ h => tru_run hK h⟩
theorem dt_cmp {op : CmpOp} {r : R2} {g : D → D → Option D} (ho : OpR X (compareOp op) r) (ok : BinOk c r g) (ha : DE X c W a fa) (hb : DE X c W b fb) (hm : behindInMarks op b = false) : DT X c W (.Compare a [op] [b] pos) (sTst (sBin g fa fb)) :=
  ⟨(pt_cmpR ho ha.pe hb.pe hm).imp' fun _ _ _ h => by
    obtain ⟨Hf, l, R, h⟩ := h
    refine bin_run ok (fun _ _ _ _ => True.intro) ⟨Hf, l, R, ?_⟩
    have h' : wpR ((sBin g fa fb l).bind fun d l => opt (blD d) l) (PB c _ _ Hf) (PX c W _ Hf) := h
    cases e : sBin g fa fb l with
    | bad =>
      rw [e] at h'
      exact h'
    | ex x l1 =>
      rw [e] at h'
      exact h'
    | ok d l1 =>
      rw [e] at h'
      cases d with
      | bl k => exact fun v H' Hf' R' s' r' => ⟨k, r', h' H' Hf' R' s'⟩
      | _ => exact h'.elim⟩
theorem dt_not (ha : DT X c W a ta) : DT X c W (.UnaryOp .Not a pos) (sNot ta) :=
  ⟨(pt_not ha.pt).imp' fun _ _ _ ⟨Hf, l, R, h⟩ => run_bindB PB.mo R h fun d l1 H1 Hf1 R1 s1 h1 => h1 H1 Hf1 R1 (Same.refl _)⟩
theorem dw_and1 (ha : DT X c W a ta) : DW X c W (.BoolOp .And [a] pos) ta := ⟨pw_and1 ha.pt⟩
theorem dw_or1 (ha : DT X c W a ta) : DW X c W (.BoolOp .Or [a] pos) ta := ⟨pw_or1 ha.pt⟩
theorem dw_and (ha : DT X c W a ta) (hb : DW X c W (.BoolOp .And (b :: rest) pos) tb) : DW X c W (.BoolOp .And (a :: b :: rest) pos) (sAnd ta tb) :=
  ⟨(pw_and ha.pt hb.pw).imp' fun _ _ _ ⟨Hf, l, R, h⟩ => run_bindB PB.mo R h fun d l1 H1 Hf1 R1 s1 h1 => by
    cases d with
    | true => exact ⟨Hf1, l1, R1, h1⟩
    | false => exact h1 H1 Hf1 R1 (Same.refl _)⟩
theorem dw_or (ha : DT X c W a ta) (hb : DW X c W (.BoolOp .Or (b :: rest) pos) tb) : DW X c W (.BoolOp .Or (a :: b :: rest) pos) (sOr ta tb) :=
  ⟨(pw_or ha.pt hb.pw).imp' fun _ _ _ ⟨Hf, l, R, h⟩ => run_bindB PB.mo R h fun d l1 H1 Hf1 R1 s1 h1 => by
    cases d with
    | false => exact ⟨Hf1, l1, R1, h1⟩
    | true => exact h1 H1 Hf1 R1 (Same.refl _)⟩
theorem dt_w (h : DW X c W e ta) : DT X c W e ta := ⟨h.pw.pt⟩
theorem de_ifExp {t : Expr} {tt : LSt → Res Bool} (ht : DT X c W t tt) (ha : DE X c W a fa) (hb : DE X c W b fb) : DE X c W (.IfExp t a b pos) (sIf tt fa fb) :=
  ⟨(pe_ifExp ht.pt ha.pe hb.pe).imp' fun _ _ _ ⟨Hf, l, R, h⟩ => run_bindB PD.mo R h fun d l1 H1 Hf1 R1 s1 h1 => by
    cases d with
    | true => exact ⟨Hf1, l1, R1, h1⟩
    | false => exact ⟨Hf1, l1, R1, h1⟩⟩
end

/-! ### argument lists, displays -/
def sNil : LSt → Res (List D) := fun l => .ok [] l
def sCons (a : LSt → Res D) (r : LSt → Res (List D)) : LSt → Res (List D) := fun l => (a l).bind fun x l => (r l).bind fun xs l => .ok (x :: xs) l
def seqD : D → Option (List D)
  | .tup ds => some ds
  | .lst ds => some ds
  | _ => none
def sTup (a : LSt → Res (List D)) : LSt → Res D := fun l => (a l).bind fun xs l => if xs.length ≤ szL then .ok (.tup xs) l else .bad
def sLst (a : LSt → Res (List D)) : LSt → Res CO := fun l => (a l).bind fun xs l => if xs.length ≤ szL then .ok (.lst xs) l else .bad
/-- a fresh cell, as data -/
def sFrz (a : LSt → Res CO) : LSt → Res D := fun l => (a l).bind fun co l => .ok co.d l
theorem REnv.see {c : Ac} {Hf H : Hp} {σ : L2.St} {l : LSt} (R : REnv c Hf σ H l) {a : Addr} {o : HO} (o' : HO) (h : H a = some o) (n : Hf a = none) (n0 : c.hid a = none) (nd : ¬ isD c.toCn l.g c.ad a)
    (fr : ∀ (j : Nat) (s : Slot), l.sl[j]? = some s → isOwn s = true → σ[j]? ≠ some (some (.ref a))) : REnv c (upd Hf a o') σ (upd H a o') l where
  len := R.len
  slot := fun j s hj => by
    obtain ⟨x, e, q⟩ := R.slot j s hj
    refine ⟨x, e, ?_⟩
    cases s with
    | un => exact True.intro
    | slf => exact q
    | fn => exact q
    | er _ _ => exact q.mono (same_upd n)
    | v d =>
      obtain ⟨v, qv, rv⟩ := q
      exact ⟨v, qv, rv.mono (same_upd n)⟩
    | own co' =>
      obtain ⟨a', o2, qa, ha', r', n', n0', nd'⟩ := q
      have ne : a' ≠ a := fun z => fr j _ hj rfl (by rw [e, qa, z])
      exact ⟨a', o2, qa, by rw [upd_ne ne]; exact ha', r'.mono (same_upd n), by rw [upd_ne ne]; exact n', n0', nd'⟩
  dis := R.dis
  sub := fun b u e => by
    by_cases e' : b = a
    · subst e'
      rw [upd_same] at e ⊢
      exact e
    · rw [upd_ne e'] at e ⊢
      exact R.sub b u e
  base := R.base.trans (same_upd n)
  frame := fun b u h1 => by
    obtain ⟨e1, e2, e3⟩ := R.frame b u h1
    have ne : b ≠ a := fun z => by rw [z, n0] at h1; cases h1
    rw [upd_ne ne, upd_ne ne]
    exact ⟨e1, e2, e3⟩
  dice := R.dice.other nd (same_upd n) (fun b hb => upd_ne hb) fun b hb => upd_ne hb
  hgs := R.hgs
section
variable {X : Cx} {c : Ac} {W : WX} {a b e : Expr} {es : List Expr} {pos p : Pos} {fa fb : LSt → Res D} {fs : LSt → Res (List D)}
theorem da_nil : DA X c W [] sNil := ⟨pa_nil.imp' fun _ _ _ ⟨Hf, l, R, h⟩ => h [] _ Hf R (Same.refl _) .nil⟩
theorem da_cons (ha : DE X c W a fa) (hr : DA X c W es fs) (hs : starEach (a :: es) X.env = (false, eval a X.env) :: starEach es X.env := by rfl) : DA X c W (a :: es) (sCons fa fs) :=
  ⟨(pa_cons ha.pe hr.pa hs).imp' fun _ _ _ ⟨Hf, l, R, h⟩ => run_bind PA'.mo R h fun d l1 v H1 Hf1 R1 s1 r1 h1 => run_bindA PA'.mo R1 h1 fun ds l2 vs H2 Hf2 R2 s2 r2 h2 => h2 (v :: vs) H2 Hf2 R2 (Same.refl _) (.cons (r1.mono s2) r2)⟩
theorem de_tup {x1 : Nat} (h : DA X c W es fs) : DE X c W (.Tuple es x1 pos) (sTup fs) :=
  ⟨(pe_tup h.pa).imp' fun _ _ _ ⟨Hf, l, R, h⟩ => run_bindA PD.mo R h fun ds l1 vs H1 Hf1 R1 s1 r1 h1 => by
    split at h1
    · rename_i hz
      exact ⟨by rw [← szL_eq, ← r1.length]; exact hz, fun p n => PD.new R1 h1 n (RVal.tupNew (R1.free n) r1)⟩
    · exact h1.elim⟩
theorem do_new {σ : L2.St} {H : Hp} {l : LSt} {Hf : Hp} {Q : VK} {co : CO} {p : Addr} {o : HO} (R : REnv c Hf σ H l) (q : PO' c σ Q Hf co l) (n : H p = none) (r : RCO c.toCn c.ad Hf co o) : Q (.ref p) (upd H p o) := by
  refine q p o _ Hf (R.hid n) (Same.refl _) upd_same r (R.free n) ?_ ?_ ?_
  · cases e : c.hid p with
    | none => rfl
    | some u =>
      have := (R.frame p u e).1
      rw [n] at this
      cases this
  · exact R.dice.new n
  · intro j s hj ho e
    cases s with
    | own co' =>
      obtain ⟨a', o', e', ha', _⟩ := R.own hj
      rw [e'] at e
      cases e
      rw [n] at ha'
      cases ha'
    | _ => cases ho
theorem do_lst (h : DA X c W es fs) : DO X c W (.List es pos) (sLst fs) :=
  ⟨(pe_lst h.pa).imp' fun _ _ _ ⟨Hf, l, R, h⟩ => run_bindA PO'.mo R h fun ds l1 vs H1 Hf1 R1 s1 r1 h1 => by
    split at h1
    · rename_i hz
      exact ⟨by rw [← szL_eq, ← r1.length]; exact hz, fun p n => do_new R1 h1 n ⟨vs, rfl, r1⟩⟩
    · exact h1.elim⟩
theorem de_frz {fo : LSt → Res CO} (h : DO X c W e fo) : DE X c W e (sFrz fo) :=
  ⟨(pe_fz h.pe).imp' fun _ _ _ ⟨Hf, l, R, h⟩ => run_bindO PD.mo R h fun co l1 h1 => fun a o H' Hf' R' s' ha r n n0 nd fr => r.lkp ha fun od => h1 _ _ _ (R'.see _ ha n n0 nd fr) (s'.trans (same_upd n)) (r.val od n)⟩
end

/-! ### what a def promises -/
def REV (cn : Cn) (ad : Ad) (H Hf' H' : Hp) (g' : G) : EV → V → Prop
  | .v d, v => RVal cn ad Hf' d v
  | .o co, v => ∃ a o, v = .ref a ∧ H' a = some o ∧ RCO cn ad Hf' co o ∧ Hf' a = none ∧ H a = none ∧ ¬ isD cn g' ad a
structure Aft (cn : Cn) (ad : Ad) (g g' : G) (H Hf H' Hf' : Hp) : Prop where
  grow : Same Hf Hf'
  sub : Same Hf' H'
  frame : ∀ a o, H a = some o → Hf a = none → ¬ isD cn g ad a → H' a = some o ∧ Hf' a = none
  dice : DiceOk cn Hf' H' ad g'
  hgs : g'.sh = g.sh
def spF (cn : Cn) (m : Fm) : Sp := fun vs H Q E => ∃ (Hf : Hp) (ad : Ad) (ds : List D) (g : G), Same Hf H ∧ DiceOk cn Hf H ad g ∧ RVals cn ad Hf ds vs ∧
  match m ds g with
  | .ok e g' => ∀ v H' Hf', Aft cn ad g g' H Hf H' Hf' → REV cn ad H Hf' H' g' e v → Q v H'
  | .ex x g' => ∀ cls dd H' Hf', Aft cn ad g g' H Hf H' Hf' → RX cn ad Hf' x cls dd → E cls dd H'
  | .bad => False
theorem isD_iff {g g' : G} {ad : Ad} {a : Addr} (h : g'.sh = g.sh) : isD cn g' ad a ↔ isD cn g ad a := by
  unfold isD
  rw [h]
def LSt.withG (l : LSt) (g : G) : LSt := { l with g := g }
/-- behind a call -/
theorem REnv.after {c : Ac} {Hf H Hf' H' : Hp} {σ : L2.St} {l : LSt} {g' : G} (R : REnv c Hf σ H l) (A : Aft c.toCn c.ad l.g g' H Hf H' Hf') : REnv c Hf' σ H' (l.withG g') where
  len := R.len
  slot := fun j s hj => by
    obtain ⟨x, e, q⟩ := R.slot j s hj
    refine ⟨x, e, ?_⟩
    cases s with
    | un => exact True.intro
    | slf => exact q
    | fn => exact q
    | er _ _ => exact q.mono A.grow
    | v d =>
      obtain ⟨v, qv, rv⟩ := q
      exact ⟨v, qv, rv.mono A.grow⟩
    | own co' =>
      obtain ⟨a', o', qa, ha', r', n', n0', nd'⟩ := q
      obtain ⟨e1, e2⟩ := A.frame a' o' ha' n' nd'
      exact ⟨a', o', qa, e1, r'.mono A.grow, e2, n0', fun z => nd' ((isD_iff A.hgs).mp z)⟩
  dis := R.dis
  sub := A.sub
  base := R.base.trans A.grow
  frame := fun b u h1 => by
    obtain ⟨e1, e2, e3⟩ := R.frame b u h1
    obtain ⟨e4, e5⟩ := A.frame b u e1 e2 e3
    exact ⟨e4, e5, fun z => e3 ((isD_iff A.hgs).mp z)⟩
  dice := A.dice
  hgs := A.hgs.trans R.hgs
def sCall (m : Fm) (a : LSt → Res (List D)) : LSt → Res D := fun l => (a l).bind fun ds l => match m ds l.g with
  | .ok e g => .ok e.d (l.withG g)
  | .ex x g => .ex x (l.withG g)
  | .bad => .bad
def sCallO (m : Fm) (a : LSt → Res (List D)) : LSt → Res CO := fun l => (a l).bind fun ds l => match m ds l.g with
  | .ok (.o co) g => .ok co (l.withG g)
  | .ok (.v _) _ => .bad
  | .ex x g => .ex x (l.withG g)
  | .bad => .bad
section
variable {X : Cx} {c : Ac} {W : WX} {e : Expr} {es : List Expr} {pos p : Pos} {fs : LSt → Res (List D)} {m : Fm} {k : Nat} {f : Addr} {fd : FuncData} {ps : List Str} {x : Str}
theorem spF_of {σ : L2.St} {H Hf : Hp} {l : LSt} {Q : VK} {ds : List D} {vs : List V} (R : REnv c Hf σ H l) (r : RVals c.toCn c.ad Hf ds vs)
    (h : match m ds l.g with
      | .ok e g => PD c σ Q Hf e.d (l.withG g)
      | .ex x g => PX c W σ Hf x (l.withG g)
      | .bad => False) : spF c.toCn m vs H (LkP Q) (WE W σ) := by
  refine ⟨Hf, c.ad, ds, l.g, R.sub, R.dice, r, ?_⟩
  cases e : m ds l.g with
  | bad =>
    rw [e] at h
    exact h
  | ex x g =>
    rw [e] at h
    exact fun cls dd H' Hf' A rx => h cls dd H' Hf' (R.after A) A.grow rx
  | ok ev g =>
    rw [e] at h
    intro v H' Hf' A rv
    cases ev with
    | v d => exact .inl (h v H' Hf' (R.after A) A.grow rv)
    | o co =>
      obtain ⟨a, o, rfl, ha, rc, n, nH, nd⟩ := rv
      have R' := R.after A
      have n0 : c.hid a = none := by
        cases e0 : c.hid a with
        | none => rfl
        | some u =>
          have := (R.frame a u e0).1
          rw [nH] at this
          cases this
      refine rc.lkp ha fun od => h _ _ _ (R'.see _ ha n n0 nd ?_) (A.grow.trans (same_upd n)) (rc.val od n)
      intro j s hj ho e'
      cases s with
      | own co' =>
        obtain ⟨a', o', e2, ha', _⟩ := R.own (i := j) hj
        rw [e2] at e'
        cases e'
        rw [nH] at ha'
        cases ha'
      | _ => cases ho
theorem spF_ofO {σ : L2.St} {H Hf : Hp} {l : LSt} {Q : VK} {ds : List D} {vs : List V} (R : REnv c Hf σ H l) (r : RVals c.toCn c.ad Hf ds vs)
    (h : match m ds l.g with
      | .ok (.o co) g => PO' c σ Q Hf co (l.withG g)
      | .ok (.v _) _ => False
      | .ex x g => PX c W σ Hf x (l.withG g)
      | .bad => False) : spF c.toCn m vs H Q (WE W σ) := by
  refine ⟨Hf, c.ad, ds, l.g, R.sub, R.dice, r, ?_⟩
  cases e : m ds l.g with
  | bad =>
    rw [e] at h
    exact h
  | ex x g =>
    rw [e] at h
    exact fun cls dd H' Hf' A rx => h cls dd H' Hf' (R.after A) A.grow rx
  | ok ev g =>
    rw [e] at h
    intro v H' Hf' A rv
    cases ev with
    | v d => exact h.elim
    | o co =>
      obtain ⟨a, o, rfl, ha, rc, n, nH, nd⟩ := rv
      have R' := R.after A
      have n0 : c.hid a = none := by
        cases e0 : c.hid a with
        | none => rfl
        | some u =>
          have := (R.frame a u e0).1
          rw [nH] at this
          cases this
      refine h a o H' Hf' R' A.grow ha rc n n0 nd ?_
      intro j s hj ho e'
      cases s with
      | own co' =>
        obtain ⟨a', o', e2, ha', _⟩ := R.own (i := j) hj
        rw [e2] at e'
        cases e'
        rw [nH] at ha'
        cases ha'
      | _ => cases ho
end
/-! ### built-in functions, by values -/
def BltOk (c : Ac) (r : List V → Hp → VK → Prop) (g : List D → Option D) : Prop :=
  ∀ (Hf H : Hp) (σ : L2.St) (l : LSt) (ds : List D) (d : D) (vs : List V) (Q : VK), REnv c Hf σ H l → RVals c.toCn c.ad Hf ds vs → g ds = some d → PD c σ Q Hf d l → r vs H Q
def sBlt (g : List D → Option D) (a : LSt → Res (List D)) : LSt → Res D := fun l => (a l).bind fun ds l => opt (g ds) l
theorem blt_run {c : Ac} {W : WX} {r : List V → Hp → VK → Prop} {g : List D → Option D} {fs : LSt → Res (List D)} (ok : BltOk c r g) {σ : L2.St} {H : Hp} {Q : VK} (h : tD c W (sBlt g fs) σ H Q) : tA c W fs σ H fun vs H1 => r vs H1 Q := by
  obtain ⟨Hf, l, R, h⟩ := h
  refine run_bindA PD.mo R h fun ds l1 vs H1 Hf1 R1 s1 r1 h1 => ?_
  cases e : g ds with
  | none =>
    rw [e] at h1
    exact h1.elim
  | some d =>
    rw [e] at h1
    exact ok Hf1 H1 σ l1 ds d vs Q R1 r1 e h1
end Dx

/-! Dx.Stm: statements, and a def's promise by its body. -/
namespace Dx
open PySem PySem.Spec PyProof.Rows L2

def REVa (c : Ac) (Hf' H' : Hp) (g' : G) : EV → V → Prop
  | .v d, v => RVal c.toCn c.ad Hf' d v
  | .o co, v => ∃ a o, v = .ref a ∧ H' a = some o ∧ RCO c.toCn c.ad Hf' co o ∧ Hf' a = none ∧ c.hid a = none ∧ ¬ isD c.toCn g' c.ad a
/-- where a statement may end -/
def wpF (c : Ac) (W : WX) (D : Ends) (Hf : Hp) : Fl → Prop
  | .nx l => ∀ σ H Hf', REnv c Hf' σ H l → Same Hf Hf' → D.nx σ H
  | .rt e l => ∀ v σ H Hf', REnv c Hf' σ H l → Same Hf Hf' → REVa c Hf' H l.g e v → D.rt v H
  | .bk l => ∀ σ H Hf', REnv c Hf' σ H l → Same Hf Hf' → D.bk σ H
  | .ct l => ∀ σ H Hf', REnv c Hf' σ H l → Same Hf Hf' → D.ct σ H
  | .ex x l => ∀ cls dd σ H Hf', REnv c Hf' σ H l → Same Hf Hf' → RX c.toCn c.ad Hf' x cls dd → W cls dd σ H
  | .bad => False
theorem wpF.mo {c : Ac} {W : WX} {D : Ends} {Hf Hf1 : Hp} (s : Same Hf Hf1) : ∀ {f : Fl}, wpF c W D Hf f → wpF c W D Hf1 f
  | .nx l, h => fun σ H Hf' R s' => h σ H Hf' R (s.trans s')
  | .rt e l, h => fun v σ H Hf' R s' r => h v σ H Hf' R (s.trans s') r
  | .bk l, h => fun σ H Hf' R s' => h σ H Hf' R (s.trans s')
  | .ct l, h => fun σ H Hf' R s' => h σ H Hf' R (s.trans s')
  | .ex x l, h => fun cls dd σ H Hf' R s' r => h cls dd σ H Hf' R (s.trans s') r
  | .bad, h => h
def tS (c : Ac) (W : WX) (f : LSt → Fl) : TS := fun D σ H => ∃ Hf l, REnv c Hf σ H l ∧ wpF c W D Hf (f l)
structure DS (X : Cx) (c : Ac) (W : WX) (s : Stmt) (f : LSt → Fl) : Prop where ps : PS X s (tS c W f)
structure DSs (X : Cx) (c : Ac) (W : WX) (s : List Stmt) (f : LSt → Fl) : Prop where pss : PSs X s (tS c W f)

def Res.toFl {α : Type} (r : Res α) (k : α → LSt → Fl) : Fl := match r with
  | .ok a l => k a l
  | .ex x l => .ex x l
  | .bad => .bad
def Fl.seq (r : Fl) (k : LSt → Fl) : Fl := match r with
  | .nx l => k l
  | r => r
section
variable {c : Ac} {W : WX} {Hf H : Hp} {σ : L2.St} {l : LSt} {D : Ends}
theorem to_bind {f : LSt → Res Dx.D} {k : Dx.D → LSt → Fl} {Q : VK} (R : REnv c Hf σ H l) (h : wpF c W D Hf ((f l).toFl k))
    (hk : ∀ d l1 v H1 Hf1, REnv c Hf1 σ H1 l1 → Same Hf Hf1 → RVal c.toCn c.ad Hf1 d v → wpF c W D Hf1 (k d l1) → Q v H1) : tD c W f σ H Q := by
  refine ⟨Hf, l, R, ?_⟩
  cases e : f l with
  | ok d l1 =>
    rw [e] at h
    exact fun v H1 Hf1 R1 s1 r1 => hk d l1 v H1 Hf1 R1 s1 r1 (h.mo s1)
  | ex x l1 =>
    rw [e] at h
    exact fun cls dd H' Hf' R' s' r => h cls dd σ H' Hf' R' s' r
  | bad =>
    rw [e] at h
    exact h
theorem to_bindB {f : LSt → Res Bool} {k : Bool → LSt → Fl} {Q : Bool → Hp → Prop} (R : REnv c Hf σ H l) (h : wpF c W D Hf ((f l).toFl k))
    (hk : ∀ d l1 H1 Hf1, REnv c Hf1 σ H1 l1 → Same Hf Hf1 → wpF c W D Hf1 (k d l1) → Q d H1) : tB c W f σ H Q := by
  refine ⟨Hf, l, R, ?_⟩
  cases e : f l with
  | ok d l1 =>
    rw [e] at h
    exact fun H1 Hf1 R1 s1 => hk d l1 H1 Hf1 R1 s1 (h.mo s1)
  | ex x l1 =>
    rw [e] at h
    exact fun cls dd H' Hf' R' s' r => h cls dd σ H' Hf' R' s' r
  | bad =>
    rw [e] at h
    exact h
theorem to_bindA {f : LSt → Res (List Dx.D)} {k : List Dx.D → LSt → Fl} {Q : List V → Hp → Prop} (R : REnv c Hf σ H l) (h : wpF c W D Hf ((f l).toFl k))
    (hk : ∀ ds l1 vs H1 Hf1, REnv c Hf1 σ H1 l1 → Same Hf Hf1 → RVals c.toCn c.ad Hf1 ds vs → wpF c W D Hf1 (k ds l1) → Q vs H1) : tA c W f σ H Q := by
  refine ⟨Hf, l, R, ?_⟩
  cases e : f l with
  | ok d l1 =>
    rw [e] at h
    exact fun v H1 Hf1 R1 s1 r1 => hk d l1 v H1 Hf1 R1 s1 r1 (h.mo s1)
  | ex x l1 =>
    rw [e] at h
    exact fun cls dd H' Hf' R' s' r => h cls dd σ H' Hf' R' s' r
  | bad =>
    rw [e] at h
    exact h
theorem to_bindO {f : LSt → Res CO} {k : CO → LSt → Fl} {Q : VK} (R : REnv c Hf σ H l) (h : wpF c W D Hf ((f l).toFl k))
    (hk : ∀ co l1, wpF c W D Hf (k co l1) → PO' c σ Q Hf co l1) : tO c W f σ H Q := by
  refine ⟨Hf, l, R, ?_⟩
  cases e : f l with
  | ok d l1 =>
    rw [e] at h
    exact hk d l1 h
  | ex x l1 =>
    rw [e] at h
    exact fun cls dd H' Hf' R' s' r => h cls dd σ H' Hf' R' s' r
  | bad =>
    rw [e] at h
    exact h
end
/-! ### the statements, by data -/
def zSeq (a b : LSt → Fl) : LSt → Fl := fun l => (a l).seq b
def zSet (i : Nat) (e : LSt → Res D) : LSt → Fl := fun l => (e l).toFl fun d l => .nx (l.put i (.v d))
def zSetO (i : Nat) (e : LSt → Res CO) : LSt → Fl := fun l => (e l).toFl fun co l => .nx (l.put i (.own co))
def zDrop (e : LSt → Res D) : LSt → Fl := fun l => (e l).toFl fun _ l => .nx l
def zRet (e : LSt → Res D) : LSt → Fl := fun l => (e l).toFl fun d l => .rt (.v d) l
def zRetO (e : LSt → Res CO) : LSt → Fl := fun l => (e l).toFl fun co l => .rt (.o co) l
def zRetN : LSt → Fl := fun l => .rt (.v .non) l
/-- return x: a cell is handed out -/
def zRetV (i : Nat) : LSt → Fl := fun l => match l.sl[i]? with
  | some (.v d) => .rt (.v d) l
  | some (.own co) => .rt (.o co) (l.put i .un)
  | _ => .bad
def zIf (t : LSt → Res Bool) (a b : LSt → Fl) : LSt → Fl := fun l => (t l).toFl fun x l => if x = true then a l else b l
def zNext : LSt → Fl := fun l => .nx l
/-- while, at most n turns -/
def zWhile (t : LSt → Res Bool) (b : LSt → Fl) : Nat → LSt → Fl
  | 0, _ => .bad
  | n + 1, l => (t l).toFl fun x l => if x = true then (match b l with
      | .nx l => zWhile t b n l
      | .ct l => zWhile t b n l
      | .bk l => .nx l
      | r => r) else .nx l
/-- a target -/
abbrev Tgt := D → LSt → Option LSt
def gSet (i : Nat) : Tgt := fun d l => some (l.put i (.v d))
def gsNil : List D → LSt → Option LSt
  | [], l => some l
  | _, _ => none
def gsCons (t : Tgt) (r : List D → LSt → Option LSt) : List D → LSt → Option LSt
  | d :: ds, l => (t d l).bind fun l => r ds l
  | [], _ => none
def gTupD (n : Nat) (r : List D → LSt → Option LSt) : Tgt := fun d l => match d with
  | .tup ds => if ds.length = n then r ds l else none
  | _ => none
def optF (o : Option LSt) : Fl := match o with
  | some l => .nx l
  | none => .bad
def zAsg (e : LSt → Res D) (t : Tgt) : LSt → Fl := fun l => (e l).toFl fun d l => optF (t d l)
/-- for x in the items -/
def zFor (t : Tgt) (b : LSt → Fl) : List D → LSt → Fl
  | [], l => .nx l
  | d :: ds, l => match t d l with
    | none => .bad
    | some l => match b l with
      | .nx l => zFor t b ds l
      | .ct l => zFor t b ds l
      | .bk l => .nx l
      | r => r

section
variable {X : Cx} {c : Ac} {W : WX} {s : Stmt} {ss : List Stmt} {pos : Pos} {e : Expr} {fe : LSt → Res D} {fa fb : LSt → Fl}
theorem dss_nil : DSs X c W [] zNext := ⟨pss_nil.imp' fun D σ H ⟨Hf, l, R, h⟩ => h σ H Hf R (Same.refl _)⟩
theorem dss_cons (h1 : DS X c W s fa) (h2 : DSs X c W ss fb) : DSs X c W (s :: ss) (zSeq fa fb) :=
  ⟨(pss_cons h1.ps h2.pss).imp' fun D σ H ⟨Hf, l, R, h⟩ => by
    refine ⟨Hf, l, R, ?_⟩
    unfold zSeq at h
    cases e : fa l with
    | nx l1 =>
      rw [e] at h
      exact fun σ' H' Hf' R' s' => ⟨Hf', l1, R', h.mo s'⟩
    | rt ev l1 =>
      rw [e] at h
      exact h
    | bk l1 =>
      rw [e] at h
      exact h
    | ct l1 =>
      rw [e] at h
      exact h
    | ex x l1 =>
      rw [e] at h
      exact h
    | bad =>
      rw [e] at h
      exact h⟩
theorem dss_one (h1 : DS X c W s fa) : DSs X c W [s] fa := ⟨pss_one h1.ps⟩
theorem ds_pass : DS X c W (.Pass pos) zNext := ⟨ps_pass.imp' fun D σ H ⟨Hf, l, R, h⟩ => h σ H Hf R (Same.refl _)⟩
theorem ds_break : DS X c W (.Break pos) (fun l => .bk l) := ⟨ps_break.imp' fun D σ H ⟨Hf, l, R, h⟩ => h σ H Hf R (Same.refl _)⟩
theorem ds_continue : DS X c W (.Continue pos) (fun l => .ct l) := ⟨ps_continue.imp' fun D σ H ⟨Hf, l, R, h⟩ => h σ H Hf R (Same.refl _)⟩
theorem ds_expr (he : DE X c W e fe) (hs : swapsWith e none pos.line X.env = pure false := by rfl) : DS X c W (.Expr e pos) (zDrop fe) :=
  ⟨(ps_expr he.pe hs).imp' fun D σ H ⟨Hf, l, R, h⟩ => to_bind R h fun d l1 v H1 Hf1 R1 s1 r1 h1 => h1 σ H1 Hf1 R1 (Same.refl _)⟩
theorem ds_ret (he : DE X c W e fe) : DS X c W (.Return (some e) pos) (zRet fe) :=
  ⟨(ps_ret he.pe).imp' fun D σ H ⟨Hf, l, R, h⟩ => to_bind R h fun d l1 v H1 Hf1 R1 s1 r1 h1 => h1 v σ H1 Hf1 R1 (Same.refl _) r1⟩
theorem ds_retO {fo : LSt → Res CO} (he : DO X c W e fo) : DS X c W (.Return (some e) pos) (zRetO fo) :=
  ⟨(ps_ret he.pe).imp' fun D σ H ⟨Hf, l, R, h⟩ => to_bindO R h fun co l1 h1 => fun a o H' Hf' R' s' ha r n n0 nd fr => h1 _ σ H' Hf' R' s' ⟨a, o, rfl, ha, r, n, n0, nd⟩⟩
theorem ds_retN : DS X c W (.Return none pos) zRetN := ⟨ps_retN.imp' fun D σ H ⟨Hf, l, R, h⟩ => h .non σ H Hf R (Same.refl _) rfl⟩
/-- a slot is forgotten -/
theorem REnv.forget {Hf H : Hp} {σ : L2.St} {l : LSt} (R : REnv c Hf σ H l) (i : Nat) : REnv c Hf σ H (l.put i .un) where
  len := by
    show σ.length = (l.sl.set i .un).length
    rw [List.length_set]
    exact R.len
  slot := fun j s hj => by
    have hj' : (l.sl.set i .un)[j]? = some s := hj
    by_cases hji : j = i
    · subst hji
      have hl : j < l.sl.length := by
        have := (List.getElem?_eq_some_iff.mp hj').1
        rwa [List.length_set] at this
      rw [List.getElem?_set_self hl] at hj'
      cases hj'
      exact ⟨σ[j]'(by rw [R.len]; exact hl), List.getElem?_eq_getElem _, True.intro⟩
    · rw [List.getElem?_set_ne (Ne.symm hji)] at hj'
      exact R.slot j s hj'
  dis := fun j k s t b hj hk os ot ej ek => by
    have back : ∀ {m : Nat} {u : Slot}, (l.sl.set i .un)[m]? = some u → isOwn u = true → l.sl[m]? = some u := fun {m u} hm ou => by
      by_cases z : m = i
      · subst z
        have hl : m < l.sl.length := by
          have := (List.getElem?_eq_some_iff.mp hm).1
          rwa [List.length_set] at this
        rw [List.getElem?_set_self hl] at hm
        cases hm
        cases ou
      · rw [List.getElem?_set_ne (Ne.symm z)] at hm
        exact hm
    exact R.dis j k s t b (back hj os) (back hk ot) os ot ej ek
  sub := R.sub
  base := R.base
  frame := R.frame
  dice := R.dice
  hgs := R.hgs
theorem ds_retV {i : Nat} {x : Str} {p : Pos} (pv : PE X (.Name x p) (tVar i)) : DS X c W (.Return (some (.Name x p)) pos) (zRetV i) :=
  ⟨(ps_ret pv).imp' fun D σ H ⟨Hf, l, R, h⟩ => by
    unfold zRetV at h
    cases e : l.sl[i]? with
    | none =>
      rw [e] at h
      exact h.elim
    | some s =>
      rw [e] at h
      cases s with
      | un => exact h.elim
      | slf => exact h.elim
      | fn => exact h.elim
      | er _ _ => exact h.elim
      | v d =>
        obtain ⟨v, ev, r⟩ := R.val e
        exact ⟨v, ev, h v σ H Hf R (Same.refl _) r⟩
      | own co =>
        obtain ⟨a, o, ea, ha, r, n, n0, nd⟩ := R.own e
        exact ⟨.ref a, ea, h _ σ H Hf (R.forget i) (Same.refl _) ⟨a, o, rfl, ha, r, n, n0, nd⟩⟩⟩
theorem ds_if {t : Expr} {tt : LSt → Res Bool} {sa sb : List Stmt} (ht : DT X c W t tt) (ha : DSs X c W sa fa) (hb : DSs X c W sb fb) : DS X c W (.If t sa sb pos) (zIf tt fa fb) :=
  ⟨(ps_if ht.pt ha.pss hb.pss).imp' fun D σ H ⟨Hf, l, R, h⟩ => to_bindB R h fun d l1 H1 Hf1 R1 s1 h1 => by
    cases d with
    | true => exact ⟨Hf1, l1, R1, h1⟩
    | false => exact ⟨Hf1, l1, R1, h1⟩⟩
theorem ds_while {t : Expr} {tt : LSt → Res Bool} {sb : List Stmt} (n : Nat) (hp : PassesOwn (model X.prog X.w) X.A X.env X.xe) (ht : DT X c W t tt) (hb : DSs X c W sb fb) : DS X c W (.While t sb [] pos) (zWhile tt fb n) :=
  ⟨(ps_while hp ht.pt hb.pss).imp' fun D σ H ⟨Hf, l, R, h⟩ => by
    refine ⟨fun m σ H => ∃ Hf l, REnv c Hf σ H l ∧ wpF c W D Hf (zWhile tt fb m l), ⟨n, Hf, l, R, h⟩, fun m σ H ⟨Hf, l, R, h⟩ => ?_⟩
    cases m with
    | zero => exact h.elim
    | succ m =>
      refine to_bindB R h fun d l1 H1 Hf1 R1 s1 h1 => ?_
      cases d with
      | false => exact h1 σ H1 Hf1 R1 (Same.refl _)
      | true =>
        refine ⟨fun σ' H' => ∃ Hf l, REnv c Hf σ' H' l ∧ wpF c W D Hf (zWhile tt fb m l), fun σ' H' q => ⟨m, Nat.lt_succ_self m, q⟩, Hf1, l1, R1, ?_⟩
        have h2 : wpF c W D Hf1 (match fb l1 with
          | .nx l => zWhile tt fb m l
          | .ct l => zWhile tt fb m l
          | .bk l => .nx l
          | r => r) := h1
        cases e : fb l1 with
        | nx l2 =>
          rw [e] at h2
          exact fun σ' H' Hf' R' s' => ⟨Hf', l2, R', h2.mo s'⟩
        | ct l2 =>
          rw [e] at h2
          exact fun σ' H' Hf' R' s' => ⟨Hf', l2, R', h2.mo s'⟩
        | bk l2 =>
          rw [e] at h2
          exact h2
        | rt ev l2 =>
          rw [e] at h2
          exact h2
        | ex x l2 =>
          rw [e] at h2
          exact h2
        | bad =>
          rw [e] at h2
          exact h2⟩
end
/-! ### targets -/
/-- two states that differ at the slots ws alone -/
def Off (ws : List Nat) (σ σ' : L2.St) : Prop := σ'.length = σ.length ∧ ∀ j, j ∉ ws → σ'[j]? = σ[j]?
theorem Off.refl (ws : List Nat) (σ : L2.St) : Off ws σ σ := ⟨rfl, fun _ _ => rfl⟩
theorem Off.trans {ws ws' : List Nat} {σ σ1 σ2 : L2.St} (a : Off ws σ σ1) (b : Off ws' σ1 σ2) : Off (ws ++ ws') σ σ2 :=
  ⟨b.1.trans a.1, fun j h => (b.2 j fun z => h (List.mem_append_right _ z)).trans (a.2 j fun z => h (List.mem_append_left _ z))⟩
structure DG (X : Cx) (c : Ac) (tg : Expr) (t : Tgt) (ws : List Nat) : Prop where
  ex : ∃ g : TG, PG X tg g ∧ ∀ (v : V) (σ : L2.St) (H : Hp) (Q : L2.St → Hp → Prop) (c' : Ac) (Hf : Hp) (l l' : LSt) (d : D), c'.toCn = c.toCn → REnv c' Hf σ H l → RVal c'.toCn c'.ad Hf d v → t d l = some l' → (∀ σ', REnv c' Hf σ' H l' → Off ws σ σ' → Q σ' H) → g v σ H Q
structure DGs (X : Cx) (c : Ac) (tgs : List Expr) (t : List D → LSt → Option LSt) (ws : List Nat) : Prop where
  ex : ∃ g : TGs, PGs X tgs g ∧ ∀ (vs : List V) (σ : L2.St) (H : Hp) (Q : L2.St → Hp → Prop) (c' : Ac) (Hf : Hp) (l l' : LSt) (ds : List D), c'.toCn = c.toCn → REnv c' Hf σ H l → RVals c'.toCn c'.ad Hf ds vs → t ds l = some l' → (∀ σ', REnv c' Hf σ' H l' → Off ws σ σ' → Q σ' H) → g vs σ H Q
section
variable {X : Cx} {c : Ac} {W : WX} {e tg : Expr} {es : List Expr} {pos : Pos} {t : Tgt} {ts : List D → LSt → Option LSt} {fe : LSt → Res D} {fb : LSt → Fl} {ws ws' : List Nat}
theorem dg_name {i : Nat} {x : Str} (p : PG X (.Name x pos) (gName i)) : DG X c (.Name x pos) (gSet i) [i] :=
  ⟨_, p, fun v σ H Q c' Hf l l' d hc R r e k => by
    cases e
    exact k _ (R.store r) ⟨List.length_set .., fun j hj => List.getElem?_set_ne (fun z => hj (by rw [z]; exact List.mem_singleton.mpr rfl))⟩⟩
theorem dgs_nil : DGs X c [] gsNil [] := ⟨_, pgs_nil, fun vs σ H Q c' Hf l l' ds hc R r e k => by
  cases ds with
  | nil =>
    cases e
    exact ⟨r, k _ R (Off.refl _ _)⟩
  | cons _ _ => cases e⟩
theorem dgs_cons (h1 : DG X c e t ws) (h2 : DGs X c es ts ws') (hs : (assignEach (e :: es) X.env).map (·.2) = assign e X.env :: (assignEach es X.env).map (·.2) := by rfl) : DGs X c (e :: es) (gsCons t ts) (ws ++ ws') := by
  obtain ⟨g, p, hg⟩ := h1.ex
  obtain ⟨gs, ps, hgs⟩ := h2.ex
  refine ⟨_, pgs_cons p ps hs, fun vs σ H Q c' Hf l l' ds hc R r e k => ?_⟩
  cases ds with
  | nil => cases e
  | cons d ds =>
    obtain ⟨v, vr, e1, r1, r2⟩ := r
    have e' : (t d l).bind (fun l => ts ds l) = some l' := e
    cases e2 : t d l with
    | none =>
      rw [e2] at e'
      cases e'
    | some l1 =>
      rw [e2] at e'
      exact ⟨v, vr, e1, hg v σ H _ c' Hf l l1 d hc R r1 e2 fun σ' R' o1 => hgs vr σ' H Q c' Hf l1 l' ds hc R' r2 e' fun σ2 R2 o2 => k σ2 R2 (o1.trans o2)⟩
theorem dg_tup {k n : Nat} (hc : X.calm = true) (hK : X.K = c.K) (h : DGs X c es ts ws) (hn : (assignEach es X.env).length = n := by rfl) (hst : (assignEach es X.env).findIdx? (·.1) = none := by rfl) : DG X c (.Tuple es k pos) (gTupD n ts) ws := by
  obtain ⟨gs, ps, hgs⟩ := h.ex
  refine ⟨_, pg_tup hc ps hn hst, fun v σ H Q c' Hf l l' d hc' R r e k => ?_⟩
  cases d with
  | tup ds =>
    obtain ⟨a, vs, rfl, h1, r1⟩ := r
    have e' : (if ds.length = n then ts ds l else none) = some l' := e
    split at e'
    · rename_i hl
      refine ⟨a, vs, rfl, ?_, by rw [← r1.length]; exact hl, hgs vs σ H Q c' Hf l l' ds hc' R r1 e' k⟩
      rw [hK, ← hc']
      exact sameT R.sub h1
    · cases e'
  | _ => cases e
theorem ds_asg (he : DE X c W e fe) (hg : DG X c tg t ws) (hs : swapsWithSole [tg] e pos.line X.env = pure false := by rfl) (hw : swappedStores [tg] e X.env = pure none := by rfl)
    (h1 : (assignEach [tg] X.env).map (·.2) = [assign tg X.env] := by rfl) : DS X c W (.Assign [tg] e pos) (zAsg fe t) := by
  obtain ⟨g, p, h⟩ := hg.ex
  exact ⟨(ps_asg he.pe p hs hw h1).imp' fun D σ H ⟨Hf, l, R, hh⟩ => to_bind R hh fun d l1 v H1 Hf1 R1 s1 r1 h1 => by
    cases e2 : t d l1 with
    | none =>
      rw [e2] at h1
      exact h1.elim
    | some l2 =>
      rw [e2] at h1
      exact h v σ H1 D.nx c Hf1 l1 l2 d rfl R1 r1 e2 fun σ' R' _ => h1 σ' H1 Hf1 R' (Same.refl _)⟩
theorem ds_set {i : Nat} {x : Str} {p : Pos} (hg : PG X (.Name x p) (gName i)) (he : DE X c W e fe) (hs : swapsWithSole [.Name x p] e pos.line X.env = pure false := by rfl) (hw : swappedStores [.Name x p] e X.env = pure none := by rfl) : DS X c W (.Assign [.Name x p] e pos) (zSet i fe) :=
  ⟨(ps_asg he.pe hg hs hw).imp' fun D σ H ⟨Hf, l, R, hh⟩ => to_bind R hh fun d l1 v H1 Hf1 R1 s1 r1 h1 => h1 _ H1 Hf1 (R1.store r1) (Same.refl _)⟩
theorem ds_setO {i : Nat} {x : Str} {p : Pos} {fo : LSt → Res CO} (hg : PG X (.Name x p) (gName i)) (he : DO X c W e fo) (hs : swapsWithSole [.Name x p] e pos.line X.env = pure false := by rfl) (hw : swappedStores [.Name x p] e X.env = pure none := by rfl) : DS X c W (.Assign [.Name x p] e pos) (zSetO i fo) :=
  ⟨(ps_asg he.pe hg hs hw).imp' fun D σ H ⟨Hf, l, R, hh⟩ => to_bindO R hh fun co l1 h1 => fun a o H' Hf' R' s' ha r n n0 nd fr => h1 _ H' Hf' (R'.storeO ha r n n0 nd fr) s'⟩
/-- a, b = x, y -/
def zPar (i j : Nat) (fa : LSt → Res (List D)) : LSt → Fl := fun l => (fa l).toFl fun ds l => match ds with
  | [x, y] => .nx ((l.put i (.v x)).put j (.v y))
  | _ => .bad
theorem ds_par {i j : Nat} {x y : Str} {a b : Expr} {fa : LSt → Res (List D)} {px py pt : Pos} {kt k2 pt2} (hc : X.calm = true) (hN : X.N.Nodup) (hi : X.N[i]? = some x) (hj : X.N[j]? = some y) (hij : i ≠ j)
    (hx : X.env.scope.names.lookup x = some .local) (hy : X.env.scope.names.lookup y = some .local) (ha : DA X c W [a, b] fa)
    (hw : swappedStores [.Tuple [.Name x px, .Name y py] kt pt] (.Tuple [a, b] k2 pt2) X.env = pure (some [x, y]))
    (hs : swapsWithSole [.Tuple [.Name x px, .Name y py] kt pt] (.Tuple [a, b] k2 pt2) pos.line X.env = pure false := by rfl) :
    DS X c W (.Assign [.Tuple [.Name x px, .Name y py] kt pt] (.Tuple [a, b] k2 pt2) pos) (zPar i j fa) :=
  ⟨(ps_par hc hN hi hj hij hx hy ha.pa hw hs).imp' fun D σ H ⟨Hf, l, R, hh⟩ => to_bindA R hh fun ds l1 vs H1 Hf1 R1 s1 r1 h1 => by
    match ds, r1, h1 with
    | [d1, d2], ⟨v1, r, e, q1, v2, r', e', q2, e3⟩, h1 =>
      subst e e'
      cases (show _ = [] from e3)
      exact ⟨v1, v2, rfl, h1 _ H1 Hf1 ((R1.store q1).store q2) (Same.refl _)⟩
    | [], _, h1 => exact h1.elim
    | [_], _, h1 => exact h1.elim
    | _ :: _ :: _ :: _, _, h1 => exact h1.elim⟩
def zPar3 (i j k : Nat) (fa : LSt → Res (List D)) : LSt → Fl := fun l => (fa l).toFl fun ds l => match ds with
  | [x, y, z] => .nx (((l.put i (.v x)).put j (.v y)).put k (.v z))
  | _ => .bad
/-- name op= e -/
def zAug (i : Nat) (g : D → D → Option D) (fe : LSt → Res D) : LSt → Fl := fun l => match l.sl[i]? with
  | some (.v x) => (fe l).toFl fun y l => match g x y with
    | some d => .nx (l.put i (.v d))
    | none => .bad
  | _ => .bad
theorem ds_aug {i : Nat} {x : Str} {op : Operator} {r : TIp} {g : D → D → Option D} {p : Pos} (hN : X.N.Nodup) (hi : X.N[i]? = some x) (hx : Loc X.env.scope x) (he : DE X c W e fe) (ho : PIp X op r) (ok : BinOk c r g)
    (hf : X.fn x = true ∨ X.env.scope.names.lookup x = some .local := by first | exact .inl rfl | exact .inr rfl | assumption) : DS X c W (.AugAssign (.Name x p) op e pos) (zAug i g fe) :=
  ⟨(ps_aug hN hi hx he.pe ho hf).imp' fun D σ H ⟨Hf, l, R, hh⟩ => by
    unfold zAug at hh
    cases e : l.sl[i]? with
    | none =>
      rw [e] at hh
      exact hh.elim
    | some s =>
      rw [e] at hh
      cases s with
      | un => exact hh.elim
      | slf => exact hh.elim
      | fn => exact hh.elim
      | er _ _ => exact hh.elim
      | own _ => exact hh.elim
      | v d0 =>
        obtain ⟨v, ev, rv⟩ := R.val e
        refine ⟨v, ev, to_bind R hh fun d l1 u H1 Hf1 R1 s1 r1 h1 => ?_⟩
        cases e2 : g d0 d with
        | none =>
          rw [e2] at h1
          exact h1.elim
        | some d' =>
          rw [e2] at h1
          exact ok Hf1 H1 σ l1 d0 d d' v u _ R1 (rv.mono s1) r1 e2 fun z H' Hf' R' s' r' => h1 _ H' Hf' (R'.store r') s'⟩
end

/-! ### a def's promise -/
def Fl.fr : Fl → FR
  | .nx l => .ok (.v .non) l.g
  | .rt e l => .ok e l.g
  | .ex x l => .ex x l.g
  | _ => .bad
def mOf (n k : Nat) (fb : LSt → Fl) : Fm := fun ds g => if ds.length = k then (fb ⟨ds.map .v ++ List.replicate (n - k) .un, g⟩).fr else .bad
section
variable {P : Program} {w : World} {K : PySem.W.Frag} {mg : Str → Option Value} {base : Heap}
open Classical in
/-- what is there at a call, but not seen -/
noncomputable def hidOf (cn : Cn) (H Hf : Hp) (g : G) (ad : Ad) : Hp := fun a => if Hf a = none ∧ ¬ isD cn g ad a then H a else none
theorem hidOf_some {cn : Cn} {H Hf : Hp} {g : G} {ad : Ad} {a : Addr} {o : HO} (h : hidOf cn H Hf g ad a = some o) : H a = some o ∧ Hf a = none ∧ ¬ isD cn g ad a := by
  unfold hidOf at h
  split at h
  · rename_i z
    exact ⟨h, z.1, z.2⟩
  · cases h
theorem hidOf_of {cn : Cn} {H Hf : Hp} {g : G} {ad : Ad} {a : Addr} {o : HO} (h : H a = some o) (n : Hf a = none) (d : ¬ isD cn g ad a) : hidOf cn H Hf g ad a = some o := by
  unfold hidOf
  rw [if_pos ⟨n, d⟩]
  exact h
theorem env_start {cn : Cn} {ad : Ad} {Hf H : Hp} {ds : List D} {vs : List V} {g : G} {N : List Str} (s : Same Hf H) (d : DiceOk cn Hf H ad g) (r : RVals cn ad Hf ds vs) :
    REnv { toCn := cn, hid := hidOf cn H Hf g ad, Hf0 := Hf, ad := ad, gs := g.sh } Hf (L2.start N vs) H ⟨ds.map .v ++ List.replicate (N.length - ds.length) .un, g⟩ where
  len := by
    unfold L2.start
    simp only [List.length_append, List.length_map, List.length_replicate]
    rw [r.length]
  slot := fun i x h => by
    have h' : (ds.map Slot.v ++ List.replicate (N.length - ds.length) Slot.un)[i]? = some x := h
    unfold L2.start
    by_cases hi : i < ds.length
    · rw [List.getElem?_append_left (by rw [List.length_map]; exact hi), List.getElem?_map, List.getElem?_eq_getElem hi] at h'
      cases h'
      obtain ⟨v, e1, e2⟩ := r.get (List.getElem?_eq_getElem hi)
      refine ⟨some v, ?_, v, rfl, e2⟩
      rw [List.getElem?_append_left (by rw [List.length_map, ← r.length]; exact hi), List.getElem?_map, e1]
      rfl
    · rw [List.getElem?_append_right (by rw [List.length_map]; omega), List.length_map, List.getElem?_replicate] at h'
      split at h'
      · rename_i hl
        cases h'
        refine ⟨none, ?_, True.intro⟩
        rw [List.getElem?_append_right (by rw [List.length_map, ← r.length]; omega), List.length_map, List.getElem?_replicate, ← r.length, if_pos hl]
      · cases h'
  dis := fun i j x y a h _ o _ _ _ => by
    have h' : (ds.map Slot.v ++ List.replicate (N.length - ds.length) Slot.un)[i]? = some x := h
    exfalso
    by_cases hi : i < ds.length
    · rw [List.getElem?_append_left (by rw [List.length_map]; exact hi), List.getElem?_map, List.getElem?_eq_getElem hi] at h'
      cases h'
      cases o
    · rw [List.getElem?_append_right (by rw [List.length_map]; omega), List.length_map, List.getElem?_replicate] at h'
      split at h'
      · cases h'
        cases o
      · cases h'
  sub := s
  base := Same.refl _
  frame := fun _ _ h => hidOf_some h
  dice := d
  hgs := rfl
end
end Dx

/-! Dx.Loops: what is walked; for; comprehensions. -/
namespace Dx
open PySem PySem.Spec PyProof.Rows L2

/-- J gives the items, one by one, as long as what was seen at its start is seen -/
def GoodIt (c : Ac) (J : It) (Hf1 : Hp) (ds : List D) : Prop := ∀ Hf σ H l, REnv c Hf σ H l → Same Hf1 Hf →
  (∀ (i : Nat) d, ds[i]? = some d → J.go i H ∧ ∀ x H', J.yld i H x H' → ∃ Hf', Same Hf Hf' ∧ RVal c.toCn c.ad Hf' d x ∧ (H' = H ∧ Hf' = Hf ∨ ∃ p o, H p = none ∧ H' = upd H p o ∧ Hf' = upd Hf p o)) ∧ J.stop ds.length H
def tI (c : Ac) (W : WX) (f : LSt → Res (List D)) : TI := fun σ H R => ∃ Hf l, REnv c Hf σ H l ∧ wpR (f l) (fun ds l' => ∀ J H' Hf', REnv c Hf' σ H' l' → Same Hf Hf' → GoodIt c J Hf' ds → R J H') (PX c W σ Hf)
structure DI (X : Cx) (c : Ac) (W : WX) (tg iter : Expr) (f : LSt → Res (List D)) : Prop where pi : PI X tg iter (tI c W f)
theorem _root_.L2.PI.imp' {X : Cx} {tg it : Expr} {t t' : TI} (p : PI X tg it t) (h : ∀ σ H R, t' σ H R → t σ H R) : PI X tg it t' := ⟨fun pins s σ H R I q => p.run pins s σ H R I (h σ H R q)⟩

theorem goodL {c : Ac} {Hf1 : Hp} {a : Addr} {vs : List V} {ds : List D} (h : Hf1 a = some (.lst vs)) (r : RVals c.toCn c.ad Hf1 ds vs) : GoodIt c (Itl c.K a) Hf1 ds := by
  intro Hf σ H l R s
  have hH : H a = some (.lst vs) := R.sub _ _ (s _ _ h)
  have hq : SqL c.K H a vs := SqL.of hH
  refine ⟨fun i d e => ?_, ⟨vs, hq, by rw [r.length]; exact Nat.le_refl _⟩⟩
  obtain ⟨v, ev, rv⟩ := r.get e
  refine ⟨⟨vs, v, hq, ev⟩, fun x H' y => ?_⟩
  obtain ⟨e1, y⟩ := y
  subst e1
  have e2 := y vs hq
  rw [ev] at e2
  cases e2
  exact ⟨Hf, Same.refl _, rv.mono s, .inl ⟨rfl, rfl⟩⟩
theorem goodT {c : Ac} {Hf1 : Hp} {a : Addr} {vs : List V} {ds : List D} {X : Cx} {pins : List (Addr × Obj)} {σ0 : L2.St} {H0 : Hp} {s0 : Shared} (_I : True) (h : SqT c.K Hf1 a vs) (r : RVals c.toCn c.ad Hf1 ds vs)
    (inj : ∀ H, Same Hf1 H → ∀ ws, SqT c.K H a ws → ws = vs) : GoodIt c (Itt c.K a) Hf1 ds := by
  intro Hf σ H l R s
  have hq : SqT c.K H a vs := sameT R.sub (sameT s h)
  refine ⟨fun i d e => ?_, ⟨vs, hq, by rw [r.length]; exact Nat.le_refl _⟩⟩
  obtain ⟨v, ev, rv⟩ := r.get e
  refine ⟨⟨vs, v, hq, ev⟩, fun x H' y => ?_⟩
  obtain ⟨e1, y⟩ := y
  subst e1
  have e2 := y vs hq
  rw [ev] at e2
  cases e2
  exact ⟨Hf, Same.refl _, rv.mono s, .inl ⟨rfl, rfl⟩⟩
theorem goodT' {c : Ac} {Hf1 : Hp} {a : Addr} {vs : List V} {ds : List D} (h : SqT c.K Hf1 a vs) (r : RVals c.toCn c.ad Hf1 ds vs) : GoodIt c (Itt c.K a) Hf1 ds := by
  intro Hf σ H l R s
  have hq : SqT c.K H a vs := sameT R.sub (sameT s h)
  refine ⟨fun i d e => ?_, ⟨vs, hq, by rw [r.length]; exact Nat.le_refl _⟩⟩
  obtain ⟨v, ev, rv⟩ := r.get e
  refine ⟨⟨vs, v, hq, ev⟩, fun x H' y => ?_⟩
  obtain ⟨e1, y⟩ := y
  subst e1
  have e2 := y vs hq
  rw [ev] at e2
  cases e2
  exact ⟨Hf, Same.refl _, rv.mono s, .inl ⟨rfl, rfl⟩⟩
def rangeD (lo : Int) (n : Nat) : List D := (List.range n).map fun i => D.int (lo + (i : Nat))
theorem goodR {c : Ac} {Hf1 : Hp} {lo : Int} {n : Nat} : GoodIt c (Itr lo n) Hf1 (rangeD lo n) := by
  intro Hf σ H l R s
  refine ⟨fun i d e => ?_, ?_⟩
  · unfold rangeD at e
    rw [List.getElem?_map] at e
    by_cases hi : i < n
    · rw [List.getElem?_range hi] at e
      cases e
      refine ⟨hi, fun x H' y => ?_⟩
      obtain ⟨e1, e2⟩ := y
      subst e1 e2
      exact ⟨Hf, Same.refl _, rfl, .inl ⟨rfl, rfl⟩⟩
    · rw [List.getElem?_eq_none (by rw [List.length_range]; omega)] at e
      cases e
  · show n ≤ (rangeD lo n).length
    unfold rangeD
    rw [List.length_map, List.length_range]
    exact Nat.le_refl _
/-! ### what is walked -/
def sItems (a : LSt → Res D) : LSt → Res (List D) := fun l => (a l).bind fun d l => opt (seqD d) l
def rng1D : List D → Option (List D)
  | [.int j] => if j.natAbs < 2 ^ 61 then some (rangeD 0 j.toNat) else none
  | _ => none
def rng2D : List D → Option (List D)
  | [.int i, .int j] => if i.natAbs < 2 ^ 61 ∧ j.natAbs < 2 ^ 61 then some (rangeD i (j - i).toNat) else none
  | _ => none
def enumD (k : Nat) : List D → List D
  | [] => []
  | d :: ds => .tup [.int (k : Nat), d] :: enumD (k + 1) ds
def enum1D : List D → Option (List D)
  | [.lst ds] => some (enumD 0 ds)
  | _ => none
def zipD : List D → List D → List D
  | d :: ds, e :: es => .tup [d, e] :: zipD ds es
  | _, _ => []
def zip2D : List D → Option (List D)
  | [.lst ds, .lst es] => some (zipD ds es)
  | _ => none
def sWalk (g : List D → Option (List D)) (a : LSt → Res (List D)) : LSt → Res (List D) := fun l => (a l).bind fun ds l => opt (g ds) l
theorem enumD_get : ∀ (ds : List D) (k i : Nat) (d : D), (enumD k ds)[i]? = some d → ∃ x, ds[i]? = some x ∧ d = .tup [.int ((k + i : Nat) : Int), x]
  | [], _, _, _, h => by simp [enumD] at h
  | e :: ds, k, 0, d, h => by
    simp [enumD] at h
    exact ⟨e, rfl, by rw [← h]; rfl⟩
  | e :: ds, k, i + 1, d, h => by
    simp [enumD] at h
    obtain ⟨x, e1, e2⟩ := enumD_get ds (k + 1) i d h
    exact ⟨x, by simpa using e1, by rw [e2, show k + 1 + i = k + (i + 1) by omega]⟩
theorem enumD_length : ∀ (ds : List D) (k : Nat), (enumD k ds).length = ds.length
  | [], _ => rfl
  | e :: ds, k => by
    simp [enumD, enumD_length ds (k + 1)]
theorem zipD_get : ∀ (ds es : List D) (i : Nat) (d : D), (zipD ds es)[i]? = some d → ∃ x y, ds[i]? = some x ∧ es[i]? = some y ∧ d = .tup [x, y]
  | [], _, _, _, h => by simp [zipD] at h
  | _ :: _, [], _, _, h => by simp [zipD] at h
  | a :: ds, b :: es, 0, d, h => by
    simp [zipD] at h
    exact ⟨a, b, rfl, rfl, h.symm⟩
  | a :: ds, b :: es, i + 1, d, h => by
    simp [zipD] at h
    obtain ⟨x, y, e1, e2, e3⟩ := zipD_get ds es i d h
    exact ⟨x, y, by simpa using e1, by simpa using e2, e3⟩
theorem zipD_length : ∀ (ds es : List D), (zipD ds es).length = min ds.length es.length
  | [], es => by simp [zipD]
  | _ :: _, [] => by simp [zipD]
  | _ :: ds, _ :: es => by
    simp [zipD, zipD_length ds es]
section
variable {X : Cx} {c : Ac} {W : WX} {tg e a b : Expr} {pos p : Pos} {fe : LSt → Res D} {fs : LSt → Res (List D)}
theorem di_list (hK : X.K = c.K) (he : DE X c W e fe) : DI X c W tg e (sItems fe) := by
  refine ⟨⟨fun pins s σ H R I h => ?_⟩⟩
  obtain ⟨Hf, l, RR, h⟩ := h
  have q := run_bind (Q := fun x H1 => (∃ a, x = .ref a ∧ (∃ xs, SqL X.K H1 a xs) ∧ R (Itl X.K a) H1) ∨ ∃ a, x = .ref a ∧ (∃ xs, SqT X.K H1 a xs) ∧ R (Itt X.K a) H1)
    (P := fun Hf ds l' => ∀ J H' Hf', REnv c Hf' σ H' l' → Same Hf Hf' → GoodIt c J Hf' ds → R J H') (fun Hf Hf1 s ds l h J H' Hf' R' s' g => h J H' Hf' R' (s.trans s') g) RR h fun d l1 v H1 Hf1 R1 s1 r1 h1 => by
      cases d with
      | tup ds =>
        obtain ⟨a, vs, rfl, ha, r⟩ := r1
        refine .inr ⟨a, rfl, ⟨vs, ?_⟩, ?_⟩
        · rw [hK]
          exact sameT R1.sub ha
        · rw [hK]
          exact h1 _ H1 Hf1 R1 (Same.refl _) (goodT' ha r)
      | lst ds =>
        obtain ⟨a, vs, rfl, ha, r⟩ := r1
        refine .inl ⟨a, rfl, ⟨vs, SqL.of (R1.sub _ _ ha)⟩, ?_⟩
        rw [hK]
        exact h1 _ H1 Hf1 R1 (Same.refl _) (goodL ha r)
      | _ => exact h1.elim
  refine thn (he.pe.run pins s σ H _ I q) fun v s1 ⟨x, H1, I1, r1, q1⟩ => ?_
  rcases q1 with ⟨a, e, ⟨xs, hq⟩, q⟩ | ⟨a, e, ⟨xs, hq⟩, q⟩
  · subst e
    cases r1
    obtain ⟨its, rv, p, hz⟩ := I1.list hq
    refine wpAny_pyIter_list p.isList ?_
    refine ⟨s1.heap.objs.size, [s1.heap.objs.size], _, _, H1, rfl, I1.kept (t' := s1.toks) fun b o e => Heap.get?_push_of_some _ e, turn_list a _, ⟨_, Heap.get?_push_size _ rfl, rfl, rfl⟩, fun b hb => ?_, q⟩
    have e : b = s1.heap.objs.size := by simpa using hb
    subst e
    exact I1.fpOk (Nat.le_refl _) (I1.hok.fresh (Nat.le_refl _))
  · subst e
    cases r1
    obtain ⟨its, rv, p, hz⟩ := I1.tuple hq
    refine wpAny_pyIter_tuple (show s1.heap.IsTuple a its.toArray from p) ?_
    refine ⟨s1.heap.objs.size, [s1.heap.objs.size], _, _, H1, rfl, I1.kept (t' := s1.toks) fun b o e => Heap.get?_push_of_some _ e, turn_tuple a _, ⟨_, Heap.get?_push_size _ rfl, rfl, rfl⟩, fun b hb => ?_, q⟩
    have e : b = s1.heap.objs.size := by simpa using hb
    subst e
    exact I1.fpOk (Nat.le_refl _) (I1.hok.fresh (Nat.le_refl _))
theorem walk_mo {σ : L2.St} {R : It → Hp → Prop} : Mono (fun Hf (ds : List D) l' => ∀ J H' Hf', REnv c Hf' σ H' l' → Same Hf Hf' → GoodIt c J Hf' ds → R J H') := fun Hf Hf1 s ds l h J H' Hf' R' s' g => h J H' Hf' R' (s.trans s') g
theorem di_range1 (hg : Gl X "range") (hm : X.mg "range" = none) (ha : DA X c W [a] fs) (hs : starEach [a] X.env = [(false, eval a X.env)] := by rfl) : DI X c W tg (.Call (.Name "range" p) [a] [] pos) (sWalk rng1D fs) :=
  ⟨(pi_range1 hg hm ha.pa hs).imp' fun σ H R ⟨Hf, l, RR, h⟩ => run_bindA walk_mo RR h fun ds l1 vs H1 Hf1 R1 s1 r1 h1 => by
    match ds, r1, h1 with
    | [.int j], ⟨v, r, e, q1, e2⟩, h1 =>
      subst e
      cases (show _ = [] from e2)
      have h2 : wpR (opt (if j.natAbs < 2 ^ 61 then some (rangeD 0 j.toNat) else none) l1) _ _ := h1
      split at h2
      · rename_i hz
        exact ⟨j, by rw [q1], by omega, by omega, h2 _ H1 Hf1 R1 (Same.refl _) goodR⟩
      · exact h2.elim
    | [], _, h1 => exact h1.elim
    | .non :: _, _, h1 => exact h1.elim
    | .bl _ :: _, _, h1 => exact h1.elim
    | .str _ :: _, _, h1 => exact h1.elim
    | .tup _ :: _, _, h1 => exact h1.elim
    | .lst _ :: _, _, h1 => exact h1.elim
    | .dK _ _ :: _, _, h1 => exact h1.elim
    | .dT _ _ :: _, _, h1 => exact h1.elim
    | .ins _ _ :: _, _, h1 => exact h1.elim
    | .scr _ :: _, _, h1 => exact h1.elim
    | .ty _ :: _, _, h1 => exact h1.elim
    | .glo _ :: _, _, h1 => exact h1.elim
    | .dice :: _, _, h1 => exact h1.elim
    | .rng _ _ :: _, _, h1 => exact h1.elim

    | .int _ :: _ :: _, _, h1 => exact h1.elim⟩
theorem rng2_inv {ds xs : List D} (h : rng2D ds = some xs) : ∃ i j, ds = [.int i, .int j] ∧ (-(2 ^ 62) ≤ i ∧ i < 2 ^ 62 ∧ -(2 ^ 62) ≤ j ∧ j < 2 ^ 62) ∧ xs = rangeD i (j - i).toNat := by
  unfold rng2D at h
  split at h
  · rename_i i j
    split at h
    · rename_i hz
      cases h
      exact ⟨i, j, rfl, by omega, rfl⟩
    · cases h
  · cases h
theorem rvals2 {cn : Cn} {ad : Ad} {H : Hp} {d e : D} {vs : List V} (r : RVals cn ad H [d, e] vs) : ∃ x y, vs = [x, y] ∧ RVal cn ad H d x ∧ RVal cn ad H e y := by
  obtain ⟨x, r1, e1, q1, y, r2, e2, q2, e3⟩ := r
  subst e1 e2
  cases (show _ = [] from e3)
  exact ⟨x, y, rfl, q1, q2⟩
theorem rvals1 {cn : Cn} {ad : Ad} {H : Hp} {d : D} {vs : List V} (r : RVals cn ad H [d] vs) : ∃ x, vs = [x] ∧ RVal cn ad H d x := by
  obtain ⟨x, r1, e1, q1, e3⟩ := r
  subst e1
  cases (show _ = [] from e3)
  exact ⟨x, rfl, q1⟩
theorem di_range2 (hg : Gl X "range") (hm : X.mg "range" = none) (ha : DA X c W [a, b] fs) (hs : starEach [a, b] X.env = [(false, eval a X.env), (false, eval b X.env)] := by rfl) (hs2 : starEach [b] X.env = [(false, eval b X.env)] := by rfl) : DI X c W tg (.Call (.Name "range" p) [a, b] [] pos) (sWalk rng2D fs) :=
  ⟨(pi_range2 hg hm ha.pa hs hs2).imp' fun σ H R ⟨Hf, l, RR, h⟩ => run_bindA walk_mo RR h fun ds l1 vs H1 Hf1 R1 s1 r1 h1 => by
    cases e : rng2D ds with
    | none =>
      rw [e] at h1
      exact h1.elim
    | some xs =>
      rw [e] at h1
      obtain ⟨i, j, rfl, hz, rfl⟩ := rng2_inv e
      obtain ⟨x, y, rfl, q1, q2⟩ := rvals2 r1
      exact ⟨i, j, by rw [q1, q2], hz, h1 _ H1 Hf1 R1 (Same.refl _) goodR⟩⟩
theorem enum_inv {ds xs : List D} (h : enum1D ds = some xs) : ∃ es, ds = [.lst es] ∧ xs = enumD 0 es := by
  unfold enum1D at h
  split at h
  · rename_i es
    cases h
    exact ⟨es, rfl, rfl⟩
  · cases h
theorem goodE {c : Ac} {Hf1 : Hp} {a : Addr} {vs : List V} {ds : List D} (h : Hf1 a = some (.lst vs)) (r : RVals c.toCn c.ad Hf1 ds vs) : GoodIt c (Ite c.K a) Hf1 (enumD 0 ds) := by
  intro Hf σ H l R s
  have hq : SqL c.K H a vs := SqL.of (R.sub _ _ (s _ _ h))
  refine ⟨fun i d e => ?_, ⟨vs, hq, by rw [enumD_length, r.length]; exact Nat.le_refl _⟩⟩
  obtain ⟨x, ex, rfl⟩ := enumD_get ds 0 i d e
  obtain ⟨v, ev, rv⟩ := r.get ex
  refine ⟨⟨vs, v, hq, ev⟩, fun y H' hy => ?_⟩
  obtain ⟨T, z, rfl, n, rfl, q⟩ := hy
  have e2 := q vs hq
  rw [ev] at e2
  cases e2
  have nf := R.free n
  refine ⟨upd Hf T (.tup [.int (i : Nat), v]), same_upd nf, ?_, .inr ⟨T, _, n, rfl, rfl⟩⟩
  refine RVal.tupNew nf (.cons ?_ (.cons (rv.mono s) .nil))
  rw [Nat.zero_add]
  rfl
theorem di_enum {elts : List Expr} {kk : Nat} {tpos : Pos} (hK : X.K = c.K) (hg : Gl X "enumerate") (hm : X.mg "enumerate" = none) (ha : DA X c W [e] fs) (hs : starEach [e] X.env = [(false, eval e X.env)] := by rfl) : DI X c W (.Tuple elts kk tpos) (.Call (.Name "enumerate" p) [e] [] pos) (sWalk enum1D fs) :=
  ⟨(pi_enum hg hm ha.pa hs).imp' fun σ H R ⟨Hf, l, RR, h⟩ => run_bindA walk_mo RR h fun ds l1 vs H1 Hf1 R1 s1 r1 h1 => by
    cases e : enum1D ds with
    | none =>
      rw [e] at h1
      exact h1.elim
    | some xs =>
      rw [e] at h1
      obtain ⟨es, rfl, rfl⟩ := enum_inv e
      obtain ⟨x, rfl, q1⟩ := rvals1 r1
      obtain ⟨a, us, rfl, ha, r⟩ := q1
      rw [hK]
      exact ⟨a, us, rfl, SqL.of (R1.sub _ _ ha), h1 _ H1 Hf1 R1 (Same.refl _) (goodE ha r)⟩⟩
theorem zip_inv {ds xs : List D} (h : zip2D ds = some xs) : ∃ es fs, ds = [.lst es, .lst fs] ∧ xs = zipD es fs := by
  unfold zip2D at h
  split at h
  · rename_i es fs
    cases h
    exact ⟨es, fs, rfl, rfl⟩
  · cases h
theorem goodZ {c : Ac} {Hf1 : Hp} {a b : Addr} {vs us : List V} {ds es : List D} (h : Hf1 a = some (.lst vs)) (r : RVals c.toCn c.ad Hf1 ds vs) (h2 : Hf1 b = some (.lst us)) (r2 : RVals c.toCn c.ad Hf1 es us) : GoodIt c (Itz c.K a b) Hf1 (zipD ds es) := by
  intro Hf σ H l R s
  have hq : SqL c.K H a vs := SqL.of (R.sub _ _ (s _ _ h))
  have hq2 : SqL c.K H b us := SqL.of (R.sub _ _ (s _ _ h2))
  refine ⟨fun i d e => ?_, ⟨vs, us, hq, hq2, ?_⟩⟩
  · obtain ⟨x, y, ex, ey, rfl⟩ := zipD_get ds es i d e
    obtain ⟨v, ev, rv⟩ := r.get ex
    obtain ⟨u, eu, ru⟩ := r2.get ey
    refine ⟨⟨vs, us, v, u, hq, hq2, ev, eu⟩, fun y H' hy => ?_⟩
    obtain ⟨T, z, w, rfl, n, rfl, q, q2⟩ := hy
    have e2 := q vs hq
    rw [ev] at e2
    cases e2
    have e3 := q2 us hq2
    rw [eu] at e3
    cases e3
    have nf := R.free n
    exact ⟨upd Hf T (.tup [v, u]), same_upd nf, RVal.tupNew nf (.cons (rv.mono s) (.cons (ru.mono s) .nil)), .inr ⟨T, _, n, rfl, rfl⟩⟩
  · rw [zipD_length, ← r.length, ← r2.length]
    omega
theorem di_zip {elts : List Expr} {kk : Nat} {tpos : Pos} (hK : X.K = c.K) (hg : Gl X "zip") (hm : X.mg "zip" = none) (ha : DA X c W [a, b] fs)
    (hs : starEach [a, b] X.env = (false, eval a X.env) :: starEach [b] X.env := by rfl) (hpl : (backTo pos (starEach [b] X.env)).any (·.1) = false := by rfl) : DI X c W (.Tuple elts kk tpos) (.Call (.Name "zip" p) [a, b] [] pos) (sWalk zip2D fs) :=
  ⟨(pi_zip hg hm ha.pa hs hpl).imp' fun σ H R ⟨Hf, l, RR, h⟩ => run_bindA walk_mo RR h fun ds l1 vs H1 Hf1 R1 s1 r1 h1 => by
    cases e : zip2D ds with
    | none =>
      rw [e] at h1
      exact h1.elim
    | some xs =>
      rw [e] at h1
      obtain ⟨es, fs, rfl, rfl⟩ := zip_inv e
      obtain ⟨x, y, rfl, q1, q2⟩ := rvals2 r1
      obtain ⟨a, us, rfl, ha, r⟩ := q1
      obtain ⟨b, ws, rfl, hb, r2⟩ := q2
      rw [hK]
      exact ⟨a, b, us, ws, rfl, SqL.of (R1.sub _ _ ha), SqL.of (R1.sub _ _ hb), h1 _ H1 Hf1 R1 (Same.refl _) (goodZ ha r hb r2)⟩⟩
end
/-! ### for -/
def zForI (f : LSt → Res (List D)) (t : Tgt) (b : LSt → Fl) : LSt → Fl := fun l => (f l).toFl fun ds l => zFor t b ds l
theorem drop_get {α : Type} {xs : List α} {i : Nat} {x : α} (h : xs[i]? = some x) : xs.drop i = x :: xs.drop (i + 1) := by
  obtain ⟨hl, e⟩ := List.getElem?_eq_some_iff.mp h
  rw [List.drop_eq_getElem_cons hl, e]
theorem REnv.yield {c : Ac} {Hf H H' Hf' : Hp} {σ : L2.St} {l : LSt} (R : REnv c Hf σ H l) (h : H' = H ∧ Hf' = Hf ∨ ∃ p o, H p = none ∧ H' = upd H p o ∧ Hf' = upd Hf p o) : REnv c Hf' σ H' l := by
  rcases h with ⟨rfl, rfl⟩ | ⟨p, o, n, rfl, rfl⟩
  · exact R
  · exact R.alloc n
section
variable {X : Cx} {c : Ac} {W : WX} {tg it : Expr} {pos : Pos} {f : LSt → Res (List D)} {t : Tgt} {fb : LSt → Fl} {body : List Stmt} {ws : List Nat}
theorem ds_for (hp : PassesOwn (model X.prog X.w) X.A X.env X.xe) (hc : X.calm = true) (hi : DI X c W tg it f) (hg : DG X c tg t ws) (hb : DSs X c W body fb) (hs : ∀ x, foldedSetIterable it X.env x = pure x := by intro _; rfl) : DS X c W (.For tg it body [] pos) (zForI f t fb) := by
  obtain ⟨g, pg, hgg⟩ := hg.ex
  refine ⟨(ps_for hp hc hi.pi pg hb.pss hs).imp' fun D σ H ⟨Hf, l, R, h⟩ => ?_⟩
  refine ⟨Hf, l, R, ?_⟩
  unfold zForI at h
  cases e : f l with
  | bad =>
    rw [e] at h
    exact h
  | ex x l1 =>
    rw [e] at h
    exact fun cls dd H' Hf' R' s' r => h cls dd σ H' Hf' R' s' r
  | ok ds l1 =>
    rw [e] at h
    intro J H1 Hf1 R1 s1 good
    have h1 : wpF c W D Hf1 (zFor t fb ds l1) := wpF.mo s1 h
    refine ⟨fun i m σ H => m = ds.length - i ∧ i ≤ ds.length ∧ ∃ Hf l, REnv c Hf σ H l ∧ Same Hf1 Hf ∧ wpF c W D Hf (zFor t fb (ds.drop i) l), ⟨ds.length, rfl, Nat.zero_le _, Hf1, l1, R1, Same.refl _, h1⟩, fun i m σ H ⟨em, hle, Hf, l, R, s, h⟩ => ?_⟩
    obtain ⟨ggo, gst⟩ := good Hf σ H l R s
    by_cases hlt : i < ds.length
    · obtain ⟨go, yl⟩ := ggo i ds[i] (List.getElem?_eq_getElem hlt)
      refine .inr ⟨go, fun σ' H' => ∃ Hf l, REnv c Hf σ' H' l ∧ Same Hf1 Hf ∧ wpF c W D Hf (zFor t fb (ds.drop (i + 1)) l), fun σ' H' q => ⟨ds.length - (i + 1), by omega, rfl, hlt, q⟩, fun x H' hy => ?_⟩
      obtain ⟨Hf', sf, rv, hyl⟩ := yl x H' hy
      have R' := R.yield hyl
      rw [drop_get (List.getElem?_eq_getElem hlt)] at h
      unfold zFor at h
      cases e2 : t ds[i] l with
      | none =>
        rw [e2] at h
        exact h.elim
      | some l2 =>
        rw [e2] at h
        have h2 : wpF c W D Hf (match fb l2 with
          | .nx l => zFor t fb (ds.drop (i + 1)) l
          | .ct l => zFor t fb (ds.drop (i + 1)) l
          | .bk l => .nx l
          | r => r) := h
        refine hgg x σ H' _ c Hf' l l2 ds[i] rfl R' rv e2 fun σ2 R2 _ => ⟨Hf', l2, R2, ?_⟩
        have h3 := wpF.mo sf h2
        cases e3 : fb l2 with
        | nx l3 =>
          rw [e3] at h3
          exact fun σ' H' Hf2 R' s' => ⟨Hf2, l3, R', s.trans (sf.trans s'), h3.mo s'⟩
        | ct l3 =>
          rw [e3] at h3
          exact fun σ' H' Hf2 R' s' => ⟨Hf2, l3, R', s.trans (sf.trans s'), h3.mo s'⟩
        | bk l3 =>
          rw [e3] at h3
          exact h3
        | rt ev l3 =>
          rw [e3] at h3
          exact h3
        | ex x l3 =>
          rw [e3] at h3
          exact h3
        | bad =>
          rw [e3] at h3
          exact h3
    · have ei : i = ds.length := by omega
      subst ei
      rw [List.drop_length] at h
      exact .inl ⟨gst, h σ H Hf R (Same.refl _)⟩
end
end Dx

/-! Dx.Comp: list comprehensions. -/
namespace Dx
open PySem PySem.Spec PyProof.Rows L2

def LSt.wipeL (l : LSt) : List Nat → LSt
  | [] => l
  | v :: vs => (l.wipeL vs).put v .un
theorem wipeL_g (l : LSt) : ∀ vs, (l.wipeL vs).g = l.g
  | [] => rfl
  | v :: vs => wipeL_g l vs
theorem REnv.wipe {c : Ac} {Hf H : Hp} {σ : L2.St} {l : LSt} (R : REnv c Hf σ H l) : ∀ vs : List Nat, REnv c Hf (L2.wipe σ vs) H (l.wipeL vs)
  | [] => R
  | v :: vs => by
    have R1 := REnv.wipe R vs
    refine ⟨?_, fun j s hj => ?_, fun j k s t b hj hk os ot ej ek => ?_, R1.sub, R1.base, R1.frame, R1.dice, R1.hgs⟩
    · show ((L2.wipe σ vs).set v none).length = ((l.wipeL vs).sl.set v .un).length
      rw [List.length_set, List.length_set]
      exact R1.len
    · have hj' : ((l.wipeL vs).sl.set v .un)[j]? = some s := hj
      show ∃ x, ((L2.wipe σ vs).set v none)[j]? = some x ∧ _
      by_cases hjv : j = v
      · subst hjv
        have hl : j < (l.wipeL vs).sl.length := by
          have := (List.getElem?_eq_some_iff.mp hj').1
          rwa [List.length_set] at this
        rw [List.getElem?_set_self hl] at hj'
        cases hj'
        exact ⟨none, List.getElem?_set_self (by rw [R1.len]; exact hl), True.intro⟩
      · rw [List.getElem?_set_ne (Ne.symm hjv)] at hj'
        rw [List.getElem?_set_ne (Ne.symm hjv)]
        exact R1.slot j s hj'
    · have back : ∀ {m : Nat} {u : Slot}, ((l.wipeL vs).sl.set v .un)[m]? = some u → isOwn u = true → m ≠ v := fun {m u} hm ou z => by
        subst z
        have hl : m < (l.wipeL vs).sl.length := by
          have := (List.getElem?_eq_some_iff.mp hm).1
          rwa [List.length_set] at this
        rw [List.getElem?_set_self hl] at hm
        cases hm
        cases ou
      have n1 := back hj os
      have n2 := back hk ot
      have hj' : ((l.wipeL vs).sl.set v .un)[j]? = some s := hj
      have hk' : ((l.wipeL vs).sl.set v .un)[k]? = some t := hk
      have ej' : ((L2.wipe σ vs).set v none)[j]? = some (some (.ref b)) := ej
      have ek' : ((L2.wipe σ vs).set v none)[k]? = some (some (.ref b)) := ek
      rw [List.getElem?_set_ne (Ne.symm n1)] at hj' ej'
      rw [List.getElem?_set_ne (Ne.symm n2)] at hk' ek'
      exact R1.dis j k s t b hj' hk' os ot ej' ek'
theorem wipe_get (σ : L2.St) : ∀ (vs : List Nat) (j : Nat), j ∉ vs → (L2.wipe σ vs)[j]? = σ[j]?
  | [], _, _ => rfl
  | v :: vs, j, h => by
    show ((L2.wipe σ vs).set v none)[j]? = σ[j]?
    rw [List.getElem?_set_ne (fun z => h (by rw [z]; exact List.mem_cons_self))]
    exact wipe_get σ vs j fun z => h (List.mem_cons_of_mem _ z)
theorem wipe_at (σ : L2.St) : ∀ (vs : List Nat) (j : Nat), j ∈ vs → j < σ.length → (L2.wipe σ vs)[j]? = some none
  | v :: vs, j, h, hl => by
    show ((L2.wipe σ vs).set v none)[j]? = some none
    by_cases e : j = v
    · subst e
      exact List.getElem?_set_self (by rw [L2.wipe_length]; exact hl)
    · rw [List.getElem?_set_ne (Ne.symm e)]
      rcases List.mem_cons.mp h with z | z
      · exact absurd z e
      · exact wipe_at σ vs j z hl
theorem wipe_off {σ σ' : L2.St} {vs ws : List Nat} (h : Off ws σ σ') (sub : ∀ j ∈ ws, j ∈ vs) : L2.wipe σ' vs = L2.wipe σ vs := by
  apply List.ext_getElem?
  intro j
  by_cases hj : j ∈ vs
  · by_cases hl : j < σ.length
    · rw [wipe_at σ vs j hj hl, wipe_at σ' vs j hj (by rw [h.1]; exact hl)]
    · rw [List.getElem?_eq_none (by rw [L2.wipe_length, h.1]; omega), List.getElem?_eq_none (by rw [L2.wipe_length]; omega)]
  · rw [wipe_get σ vs j hj, wipe_get σ' vs j hj]
    exact h.2 j fun z => hj (sub j z)
theorem wipeL_at (l : LSt) : ∀ (vs : List Nat) (j : Nat) (s : Slot), j ∈ vs → (l.wipeL vs).sl[j]? = some s → s = .un
  | v :: vs, j, s, h, e => by
    have e' : ((l.wipeL vs).sl.set v .un)[j]? = some s := e
    by_cases q : j = v
    · subst q
      have hl : j < (l.wipeL vs).sl.length := by
        have := (List.getElem?_eq_some_iff.mp e').1
        rwa [List.length_set] at this
      rw [List.getElem?_set_self hl] at e'
      cases e'
      rfl
    · rw [List.getElem?_set_ne (Ne.symm q)] at e'
      rcases List.mem_cons.mp h with z | z
      · exact absurd z q
      · exact wipeL_at l vs j s z e'
theorem REnv.unwipe {c : Ac} {Hf H : Hp} {σ : L2.St} {l : LSt} {vs : List Nat} (R : REnv c Hf (L2.wipe σ vs) H l) (h : ∀ (j : Nat) (s : Slot), j ∈ vs → l.sl[j]? = some s → s = .un) : REnv c Hf σ H l where
  len := by
    have := R.len
    rw [L2.wipe_length] at this
    exact this
  slot := fun j s hj => by
    by_cases hv : j ∈ vs
    · have e := h j s hv hj
      subst e
      have hl : j < σ.length := by
        have h1 := (List.getElem?_eq_some_iff.mp hj).1
        have h2 := R.len
        rw [L2.wipe_length] at h2
        omega
      exact ⟨σ[j], List.getElem?_eq_getElem hl, True.intro⟩
    · obtain ⟨x, e, q⟩ := R.slot j s hj
      rw [wipe_get σ vs j hv] at e
      exact ⟨x, e, q⟩
  dis := fun j k s t b hj hk os ot ej ek => by
    have n : ∀ {m : Nat} {u : Slot}, l.sl[m]? = some u → isOwn u = true → m ∉ vs := fun {m u} hm ou z => by
      have e := h m u z hm
      subst e
      cases ou
    refine R.dis j k s t b hj hk os ot ?_ ?_
    · rw [wipe_get σ vs j (n hj os)]
      exact ej
    · rw [wipe_get σ vs k (n hk ot)]
      exact ek
  sub := R.sub
  base := R.base
  frame := R.frame
  dice := R.dice
  hgs := R.hgs
/-- a hidden object is changed -/
theorem REnv.poke {c : Ac} {Hf H : Hp} {σ : L2.St} {l : LSt} (R : REnv c Hf σ H l) {a : Addr} {o : HO} (n : Hf a = none) (n0 : c.hid a = none) (nd : ¬ isD c.toCn l.g c.ad a)
    (fr : ∀ (j : Nat) (s : Slot), l.sl[j]? = some s → isOwn s = true → σ[j]? ≠ some (some (.ref a))) : REnv c Hf σ (upd H a o) l where
  len := R.len
  slot := fun j s hj => by
    obtain ⟨x, e, q⟩ := R.slot j s hj
    refine ⟨x, e, ?_⟩
    cases s with
    | un => exact True.intro
    | slf => exact q
    | fn => exact q
    | er _ _ => exact q
    | v d => exact q
    | own co' =>
      obtain ⟨a', o', qa, ha', r', n', n0', nd'⟩ := q
      have ne : a' ≠ a := fun z => fr j _ hj rfl (by rw [e, qa, z])
      exact ⟨a', o', qa, by rw [upd_ne ne]; exact ha', r', n', n0', nd'⟩
  dis := R.dis
  sub := fun b u hb => by
    rw [upd_ne (fun z => by rw [z, n] at hb; cases hb)]
    exact R.sub b u hb
  base := R.base
  frame := fun b u h1 => by
    obtain ⟨e1, e2, e3⟩ := R.frame b u h1
    exact ⟨by rw [upd_ne (fun z => by rw [z, n0] at h1; cases h1)]; exact e1, e2, e3⟩
  dice := R.dice.poke nd
  hgs := R.hgs
/-- a hidden object more is kept in mind -/
def Ac.more (c : Ac) (a : Addr) (o : HO) : Ac := { c with hid := upd c.hid a o }
theorem REnv.mind {c : Ac} {Hf H : Hp} {σ : L2.St} {l : LSt} (R : REnv c Hf σ H l) {a : Addr} {o : HO} (h : H a = some o) (n : Hf a = none) (nd : ¬ isD c.toCn l.g c.ad a)
    (fr : ∀ (j : Nat) (s : Slot), l.sl[j]? = some s → isOwn s = true → σ[j]? ≠ some (some (.ref a))) : REnv (c.more a o) Hf σ H l where
  len := R.len
  slot := fun j s hj => by
    obtain ⟨x, e, q⟩ := R.slot j s hj
    refine ⟨x, e, ?_⟩
    cases s with
    | un => exact True.intro
    | slf => exact q
    | fn => exact q
    | er _ _ => exact q
    | v d => exact q
    | own co' =>
      obtain ⟨a', o', qa, ha', r', n', n0', nd'⟩ := q
      have ne : a' ≠ a := fun z => fr j _ hj rfl (by rw [e, qa, z])
      exact ⟨a', o', qa, ha', r', n', by show upd c.hid a o a' = none; rw [upd_ne ne]; exact n0', nd'⟩
  dis := R.dis
  sub := R.sub
  base := R.base
  frame := fun b u h1 => by
    have h1' : upd c.hid a o b = some u := h1
    by_cases e : b = a
    · subst e
      rw [upd_same] at h1'
      cases h1'
      exact ⟨h, n, nd⟩
    · rw [upd_ne e] at h1'
      exact R.frame b u h1'
  dice := R.dice
  hgs := R.hgs
theorem REnv.unmind {c : Ac} {Hf H : Hp} {σ : L2.St} {l : LSt} {a : Addr} {o : HO} (n0 : c.hid a = none) (R : REnv (c.more a o) Hf σ H l) : REnv c Hf σ H l ∧ H a = some o ∧ Hf a = none ∧ ¬ isD c.toCn l.g c.ad a ∧ ∀ (j : Nat) (s : Slot), l.sl[j]? = some s → isOwn s = true → σ[j]? ≠ some (some (.ref a)) := by
  obtain ⟨h1, h2, h3⟩ := R.frame a o (show upd c.hid a o a = some o from upd_same)
  refine ⟨⟨R.len, fun j s hj => ?_, R.dis, R.sub, R.base, fun b u hb => ?_, R.dice, R.hgs⟩, h1, h2, h3, fun j s hj os e => ?_⟩
  · obtain ⟨x, e, q⟩ := R.slot j s hj
    refine ⟨x, e, ?_⟩
    cases s with
    | un => exact True.intro
    | slf => exact q
    | fn => exact q
    | er _ _ => exact q
    | v d => exact q
    | own co' =>
      obtain ⟨a', o', qa, ha', r', n', n0', nd'⟩ := q
      refine ⟨a', o', qa, ha', r', n', ?_, nd'⟩
      have z : upd c.hid a o a' = none := n0'
      by_cases e2 : a' = a
      · rw [e2, upd_same] at z
        cases z
      · rw [upd_ne e2] at z
        exact z
  · refine R.frame b u ?_
    show upd c.hid a o b = some u
    rw [upd_ne (fun z => by rw [z, n0] at hb; cases hb)]
    exact hb
  · cases s with
    | own co' =>
      obtain ⟨a', o', e1, ha', r', n', n0', nd'⟩ := R.own hj
      rw [e1] at e
      cases e
      have z : upd c.hid a o a = none := n0'
      rw [upd_same] at z
      cases z
    | _ => cases os

/-! ### the comprehension -/
abbrev W0 : WX := fun _ _ _ _ => False
def compLoop (t : Tgt) (tt : LSt → Res Bool) (fe : LSt → Res D) (vs : List Nat) : List D → List D → LSt → Res CO
  | [], acc, l => .ok (.lst acc) l
  | d :: ds, acc, l => match t d l with
    | none => .bad
    | some l => match tt l with
      | .ok true l => (match fe l with
        | .ok y l => if acc.length < szL then compLoop t tt fe vs ds (acc ++ [y]) (l.wipeL vs) else .bad
        | _ => .bad)
      | .ok false l => compLoop t tt fe vs ds acc (l.wipeL vs)
      | _ => .bad
def sComp (f : LSt → Res (List D)) (t : Tgt) (tt : LSt → Res Bool) (fe : LSt → Res D) (vs : List Nat) : LSt → Res CO := fun l => (f l).bind fun ds l => compLoop t tt fe vs ds [] (l.wipeL vs)
def sYes : LSt → Res Bool := fun l => .ok true l
structure DTs (X : Cx) (c : Ac) (W : WX) (es : List Expr) (f : LSt → Res Bool) : Prop where pts : PTs X es (tB c W f)
section
variable {X : Cx} {c : Ac} {W : WX} {elt tg iter : Expr} {ifs : List Expr} {scope : Scope} {own : List (Str × Nat)} {pos : Pos} {f : LSt → Res (List D)} {t : Tgt} {tt : LSt → Res Bool} {fe : LSt → Res D} {ws : List Nat}
theorem dts_nil : DTs X c W [] sYes := ⟨⟨fun pins s σ H Q I ⟨Hf, l, R, h⟩ => pts_nil.run pins s σ H Q I (h H Hf R (Same.refl _))⟩⟩
theorem dts_one {e : Expr} (h : DT X c W e tt) : DTs X c W [e] tt := ⟨pts_one h.pt⟩
theorem lc_run {g : TG} {TT' : TT} {TE' : TE} (hws : ∀ j ∈ ws, j ∈ own.map (·.2))
    (hg : ∀ (v : V) (σ : L2.St) (H : Hp) (Q : L2.St → Hp → Prop) (c' : Ac) (Hf : Hp) (l l' : LSt) (d : D), c'.toCn = c.toCn → REnv c' Hf σ H l → RVal c'.toCn c'.ad Hf d v → t d l = some l' → (∀ σ', REnv c' Hf σ' H l' → Off ws σ σ' → Q σ' H) → g v σ H Q)
    (ht : ∀ (c' : Ac) σ H Q, c'.toCn = c.toCn → tB c' W0 tt σ H Q → TT' σ H Q) (he : ∀ (c' : Ac) σ H Q, c'.toCn = c.toCn → tD c' W0 fe σ H Q → TE' σ H Q)
    {σ : L2.St} {H : Hp} {Q : VK} (h : tO c W (sComp f t tt fe (own.map (·.2))) σ H Q) : tLc (tI c W f) g TT' TE' (own.map (·.2)) σ H Q := by
  obtain ⟨Hf, l, R, h⟩ := h
  refine ⟨Hf, l, R, ?_⟩
  unfold sComp at h
  cases e : f l with
  | bad =>
    rw [e] at h
    exact h
  | ex x l1 =>
    rw [e] at h
    exact h
  | ok ds l1 =>
    rw [e] at h
    intro J H1 Hf1 R1 s1 good D hD
    let vs := own.map (·.2)
    have h1 : wpR (compLoop t tt fe vs ds [] (l1.wipeL vs)) (PO' c σ Q Hf1) (PX c W σ Hf1) := wpR.mono PO'.mo s1 h
    have c0 : c.hid D = none := by
      cases e0 : c.hid D with
      | none => rfl
      | some u =>
        have := (R1.frame D u e0).1
        rw [hD] at this
        cases this
    have dn : ∀ {σ : L2.St} {l : LSt}, REnv c Hf1 σ H1 l → ¬ isD c.toCn l.g c.ad D := fun {σ l} R => R.dice.new hD
    have fr0 : ∀ (j : Nat) (s : Slot), (l1.wipeL vs).sl[j]? = some s → isOwn s = true → (L2.wipe σ vs)[j]? ≠ some (some (.ref D)) := fun j s hj ho e => by
      cases s with
      | own co' =>
        obtain ⟨a', o', e', ha', _⟩ := (R1.wipe vs).own hj
        rw [e'] at e
        cases e
        rw [hD] at ha'
        cases ha'
      | _ => cases ho
    -- the word: behind i items the new list holds us, data acc
    refine ⟨fun i m H' => m = ds.length - i ∧ i ≤ ds.length ∧ ∃ (Hf : Hp) (l : LSt) (acc : List Dx.D) (us : List V), REnv (c.more D (.lst us)) Hf (L2.wipe σ vs) H' l ∧ Same Hf1 Hf ∧ RVals c.toCn c.ad Hf acc us ∧
      (∀ (j : Nat) (s : Slot), j ∈ vs → l.sl[j]? = some s → s = .un) ∧ wpR (compLoop t tt fe vs (ds.drop i) acc l) (PO' c σ Q Hf) (PX c W σ Hf),
      ⟨ds.length, rfl, Nat.zero_le _, Hf1, l1.wipeL vs, [], [], ?_, Same.refl _, rfl, wipeL_at l1 vs, h1⟩, fun i m H' ⟨em, hle, Hf, l, acc, us, R, s, ra, un, h⟩ => ?_⟩
    · have R2 := (R1.wipe vs).hid (o := .lst []) hD
      exact R2.mind upd_same (R1.free hD) (fun z => dn (R1.wipe vs) z) fr0
    · obtain ⟨R0, hDD, nf, nd, fr⟩ := R.unmind c0
      obtain ⟨ggo, gst⟩ := good Hf _ H' l R0 s
      by_cases hlt : i < ds.length
      · obtain ⟨go, yl⟩ := ggo i ds[i] (List.getElem?_eq_getElem hlt)
        refine .inr ⟨go, fun H' => ∃ (Hf : Hp) (l : LSt) (acc : List Dx.D) (us : List V), REnv (c.more D (.lst us)) Hf (L2.wipe σ vs) H' l ∧ Same Hf1 Hf ∧ RVals c.toCn c.ad Hf acc us ∧
          (∀ (j : Nat) (s : Slot), j ∈ vs → l.sl[j]? = some s → s = .un) ∧ wpR (compLoop t tt fe vs (ds.drop (i + 1)) acc l) (PO' c σ Q Hf) (PX c W σ Hf), fun H' q => ⟨ds.length - (i + 1), by omega, rfl, hlt, q⟩, fun x H2 hy => ?_⟩
        obtain ⟨Hf2, sf, rv, hyl⟩ := yl x H2 hy
        have R' := R.yield hyl
        rw [drop_get (List.getElem?_eq_getElem hlt)] at h
        unfold compLoop at h
        cases e2 : t ds[i] l with
        | none =>
          rw [e2] at h
          exact h.elim
        | some l2 =>
          rw [e2] at h
          refine hg x _ H2 _ (c.more D (.lst us)) Hf2 l l2 ds[i] rfl R' rv e2 fun σ2 R2 off => ⟨wipe_off off hws |>.trans ?_, ?_⟩
          · apply List.ext_getElem?
            intro j
            by_cases hj : j ∈ vs
            · by_cases hl : j < σ.length
              · rw [wipe_at _ vs j hj (by rw [L2.wipe_length]; exact hl), wipe_at σ vs j hj hl]
              · rw [List.getElem?_eq_none (by rw [L2.wipe_length, L2.wipe_length]; omega), List.getElem?_eq_none (by rw [L2.wipe_length]; omega)]
            · rw [wipe_get _ vs j hj]
          · have wσ : L2.wipe σ2 vs = L2.wipe σ vs := (wipe_off off hws).trans (by
              apply List.ext_getElem?
              intro j
              by_cases hj : j ∈ vs
              · by_cases hl : j < σ.length
                · rw [wipe_at _ vs j hj (by rw [L2.wipe_length]; exact hl), wipe_at σ vs j hj hl]
                · rw [List.getElem?_eq_none (by rw [L2.wipe_length, L2.wipe_length]; omega), List.getElem?_eq_none (by rw [L2.wipe_length]; omega)]
              · rw [wipe_get _ vs j hj])
            refine ht (c.more D (.lst us)) σ2 H2 _ rfl ⟨Hf2, l2, R2, ?_⟩
            have h2 : wpR (match tt l2 with
              | .ok true l => (match fe l with
                | .ok y l => if acc.length < szL then compLoop t tt fe vs (ds.drop (i + 1)) (acc ++ [y]) (l.wipeL vs) else .bad
                | _ => .bad)
              | .ok false l => compLoop t tt fe vs (ds.drop (i + 1)) acc (l.wipeL vs)
              | _ => .bad) (PO' c σ Q Hf) (PX c W σ Hf) := h
            cases e3 : tt l2 with
            | bad =>
              rw [e3] at h2
              exact h2.elim
            | ex x l3 =>
              rw [e3] at h2
              exact h2.elim
            | ok b l3 =>
              rw [e3] at h2
              intro H3 Hf3 R3 s3
              cases b with
              | false =>
                refine ⟨Hf3, l3.wipeL vs, acc, us, ?_, s.trans (sf.trans s3), ra.mono (sf.trans s3), wipeL_at l3 vs, wpR.mono PO'.mo (sf.trans s3) h2⟩
                rw [← wσ]
                exact R3.wipe vs
              | true =>
                refine he (c.more D (.lst us)) σ2 H3 _ rfl ⟨Hf3, l3, R3, ?_⟩
                have h2 : wpR (match fe l3 with
                  | .ok y l => if acc.length < szL then compLoop t tt fe vs (ds.drop (i + 1)) (acc ++ [y]) (l.wipeL vs) else .bad
                  | _ => .bad) (PO' c σ Q Hf) (PX c W σ Hf) := h2
                cases e4 : fe l3 with
                | bad =>
                  rw [e4] at h2
                  exact h2.elim
                | ex x l4 =>
                  rw [e4] at h2
                  exact h2.elim
                | ok y l4 =>
                  rw [e4] at h2
                  intro v H4 Hf4 R4 s4 rv4
                  have h5 : wpR (if acc.length < szL then compLoop t tt fe vs (ds.drop (i + 1)) (acc ++ [y]) (l4.wipeL vs) else .bad) (PO' c σ Q Hf) (PX c W σ Hf) := h2
                  split at h5
                  · rename_i hz
                    have sall := sf.trans (s3.trans s4)
                    have ra4 := ra.mono sall
                    have R5 := R4.wipe vs
                    rw [wσ] at R5
                    obtain ⟨R6, hD6, nf6, nd6, fr6⟩ := R5.unmind c0
                    refine ⟨us, hD6, by rw [← szL_eq, ← ra4.length]; exact hz, Hf4, l4.wipeL vs, acc ++ [y], us ++ [v], ?_, s.trans sall, ra4.append (.cons rv4 .nil), wipeL_at l4 vs, wpR.mono PO'.mo sall h5⟩
                    exact (R6.poke nf6 c0 nd6 fr6).mind upd_same nf6 nd6 fr6
                  · exact h5.elim
      · have ei : i = ds.length := by omega
        subst ei
        rw [List.drop_length] at h
        have Rσ : REnv c Hf σ H' l := R0.unwipe un
        refine .inl ⟨gst, h D (.lst us) H' Hf Rσ (Same.refl _) hDD ⟨us, rfl, ra⟩ nf c0 nd fun j s hj os e => ?_⟩
        have hv : j ∉ vs := fun z => by
          have := un j s z hj
          subst this
          cases os
        exact fr j s hj os (by rw [wipe_get σ vs j hv]; exact e)
/-- a target's own word -/
def gD (c : Ac) (t : Tgt) (ws : List Nat) : TG := fun v σ H Q => ∃ (c' : Ac) (Hf : Hp) (l l' : LSt) (d : D), c'.toCn = c.toCn ∧ REnv c' Hf σ H l ∧ RVal c'.toCn c'.ad Hf d v ∧ t d l = some l' ∧ ∀ σ', REnv c' Hf σ' H l' → Off ws σ σ' → Q σ' H
theorem DG.can (h : DG X c tg t ws) : PG X tg (gD c t ws) := by
  obtain ⟨g, p, hg⟩ := h.ex
  exact ⟨fun pins s σ H v u Q I r ⟨c', Hf, l, l', d, h1, h2, h3, h4, h5⟩ => p.run pins s σ H v u Q I r (hg v σ H Q c' Hf l l' d h1 h2 h3 h4 h5)⟩
theorem do_lc (hc : X.calm = true) (hN : X.N.Nodup) (hi : DI X c W tg iter f) (ok : BlkOk X.N X.env.scope scope own) (hws : ∀ j ∈ ws, j ∈ own.map (·.2))
    (hg : ∀ (s : Shared) (H : Hp) (C : Addr) (cl : List (Str × Addr)) (fp : List Addr), DG (X.blk s H scope (compEnvC scope cl C X.env) fp) c tg t ws)
    (ht : ∀ (s : Shared) (H : Hp) (C : Addr) (cl : List (Str × Addr)) (fp : List Addr) (c' : Ac), c'.toCn = c.toCn → DTs (X.blk s H scope (compEnvC scope cl C X.env) fp) c' W0 ifs tt)
    (he : ∀ (s : Shared) (H : Hp) (C : Addr) (cl : List (Str × Addr)) (fp : List Addr) (c' : Ac), c'.toCn = c.toCn → DE (X.blk s H scope (compEnvC scope cl C X.env) fp) c' W0 elt fe) (hs : ∀ x, foldedSetIterable iter X.env x = pure x := by intro _; rfl) :
    DO X c W (.ListComp elt [⟨tg, iter, ifs, 0⟩] scope pos) (sComp f t tt fe (own.map (·.2))) := by
  exact ⟨(pe_lc (g := gD c t ws) (tt := fun σ H Q => ∃ c' : Ac, c'.toCn = c.toCn ∧ tB c' W0 tt σ H Q) (te := fun σ H Q => ∃ c' : Ac, c'.toCn = c.toCn ∧ tD c' W0 fe σ H Q) hc hN hi.pi ok (fun s H C cl fp => (hg s H C cl fp).can)
    (fun s H C cl fp => ⟨fun pins s1 σ H1 Q I ⟨c', h1, h2⟩ => (ht s H C cl fp c' h1).pts.run pins s1 σ H1 Q I h2⟩)
    (fun s H C cl fp => ⟨fun pins s1 σ H1 Q I ⟨c', h1, h2⟩ => (he s H C cl fp c' h1).pe.run pins s1 σ H1 Q I h2⟩) hs).imp' fun σ H Q h =>
      lc_run hws (fun v σ H Q c' Hf l l' d h1 h2 h3 h4 h5 => ⟨c', Hf, l, l', d, h1, h2, h3, h4, h5⟩) (fun c' σ H Q e h => ⟨c', e, h⟩) (fun c' σ H Q e h => ⟨c', e, h⟩) h⟩
end
end Dx

/-! Dx.Obj: instances with slots: read, made, their methods. -/
namespace Dx
open PySem PySem.Spec PyProof.Rows L2

/-! ### attributes -/
/-- where the classes keep an attribute -/
def AttrOk (cn : Cn) (f : Str) (tb : Nat → Option Nat) : Prop := ∀ n i, tb n = some i → SlX.SCls cn.K (cn.cA n) ∧ ∃ p, SlX.Slot1 cn.K (cn.cA n) f p i
def fldD (tb : Nat → Option Nat) : D → Option D
  | .ins n fs => (tb n).bind fun i => fs[i]?
  | _ => none
def sAttr (tb : Nat → Option Nat) (a : LSt → Res D) : LSt → Res D := fun l => (a l).bind fun d l => opt (fldD tb d) l
section
variable {X : Cx} {c : Ac} {W : WX} {e : Expr} {pos : Pos} {fe : LSt → Res D} {f : Str} {tb : Nat → Option Nat}
theorem de_attr (hK : X.K = c.K) (ok : AttrOk c.toCn f tb) (he : DE X c W e fe) (hb : attributeBase e f X.env (eval e X.env) = eval e X.env := by rfl) : DE X c W (.Attribute e f pos) (sAttr tb fe) :=
  ⟨(SlX.pe_sl he.pe hb).imp' fun σ H Q ⟨Hf, l, R, h⟩ => run_bind PD.mo R h fun d l1 v H1 Hf1 R1 s1 r1 h1 => by
    cases d with
    | ins n fs =>
      have h1 : wpR (opt ((tb n).bind fun i => fs[i]?) l1) (PD c σ Q Hf1) (PX c W σ Hf1) := h1
      cases e1 : tb n with
      | none =>
        rw [e1] at h1
        exact h1.elim
      | some i =>
        rw [e1] at h1
        have h1 : wpR (opt (fs[i]?) l1) (PD c σ Q Hf1) (PX c W σ Hf1) := h1
        cases e2 : fs[i]? with
        | none =>
          rw [e2] at h1
          exact h1.elim
        | some d2 =>
          rw [e2] at h1
          obtain ⟨a, dx, vs, rfl, ha, hd, rv⟩ := r1
          obtain ⟨u, eu, ru⟩ := rv.get e2
          obtain ⟨sc, p, sl⟩ := ok n i e1
          refine ⟨a, c.cA n, dx, p, vs.map some, i, u, rfl, .inr ⟨R1.sub _ _ ha, R1.sub _ _ hd⟩, ?_, ?_, ?_, PD.flat R1 h1 ru⟩
          · rw [hK]
            exact sc
          · rw [hK]
            exact sl
          · rw [List.getElem?_map, eu]
            rfl
    | _ => exact h1.elim⟩
end

/-! ### an instance is made -/
/-- the body of an __init__ begins: self at slot 0 -/
def spI (cn : Cn) (n : Nat) (m : Fm) : Sp := fun vs H Q E => ∃ (Hf : Hp) (ad : Ad) (ds : List D) (g : G) (vs' : List V), vs = .ref ad.oa :: vs' ∧ g.ob = some (n, []) ∧ Same Hf H ∧ DiceOk cn Hf H ad g ∧ RVals cn ad Hf ds vs' ∧
  match m ds g with
  | .ok e g' => ∀ v H' Hf', Aft cn ad g g' H Hf H' Hf' → REV cn ad H Hf' H' g' e v → Q v H'
  | .ex x g' => ∀ cls dd H' Hf', Aft cn ad g g' H Hf H' Hf' → RX cn ad Hf' x cls dd → E cls dd H'
  | .bad => False
def allS : List (Option D) → Option (List D)
  | [] => some []
  | some d :: r => (allS r).map (d :: ·)
  | none :: _ => none
def mkC (n : Nat) (mi : Fm) : Fm := fun ds g => match mi ds { g with ob := some (n, []) } with
  | .ok (.v .non) g' => (match g'.ob with
    | some (n', f :: fs) => if n' = n then (match allS (f :: fs) with
      | some fs' => .ok (.v (.ins n fs')) { g' with ob := g.ob }
      | none => .bad) else .bad
    | _ => .bad)
  | .ok _ _ => .bad
  | .ex x g' => .ex x { g' with ob := g.ob }
  | .bad => .bad
mutual
theorem RVal.re {cn : Cn} {ad ad' : Ad} (h : ad'.d = ad.d) {H : Hp} : ∀ (d : D) (v : V), RVal cn ad H d v → RVal cn ad' H d v
  | .non, _, q => q
  | .bl _, _, q => q
  | .int _, _, q => q
  | .str _, _, q => q
  | .tup ds, _, ⟨a, vs, q, h1, r⟩ => ⟨a, vs, q, h1, RVals.re h ds vs r⟩
  | .lst ds, _, ⟨a, vs, q, h1, r⟩ => ⟨a, vs, q, h1, RVals.re h ds vs r⟩
  | .scr _, _, q => q
  | .dK ks ds, _, ⟨a, od, vs, q, h1, l, r⟩ => ⟨a, od, vs, q, h1, l, RVals.re h ds vs r⟩
  | .dT ks ds, _, ⟨a, od, vs, q, h1, l, r⟩ => ⟨a, od, vs, q, h1, l, RVals.re h ds vs r⟩
  | .ins n fs, _, ⟨a, dx, vs, q, h1, h2, r⟩ => ⟨a, dx, vs, q, h1, h2, RVals.re h fs vs r⟩
  | .ty _, _, q => q
  | .glo _, _, q => q
  | .dice, _, q => by
    show _ = V.ref ad'.d
    rw [h]
    exact q
  | .rng _ _, _, q => q
theorem RVals.re {cn : Cn} {ad ad' : Ad} (h : ad'.d = ad.d) {H : Hp} : ∀ (ds : List D) (vs : List V), RVals cn ad H ds vs → RVals cn ad' H ds vs
  | [], _, q => q
  | d :: ds, _, ⟨v, r, q, h1, t⟩ => ⟨v, r, q, RVal.re h d v h1, RVals.re h ds r t⟩
end
theorem allS_get : ∀ {fs : List (Option D)} {gs : List D}, allS fs = some gs → fs = gs.map some
  | [], gs, h => by
    cases h
    rfl
  | some d :: r, gs, h => by
    have h' : (allS r).map (d :: ·) = some gs := h
    rw [Option.map_eq_some_iff] at h'
    obtain ⟨g, e1, e2⟩ := h'
    subst e2
    rw [allS_get e1]
    rfl
  | none :: _, _, h => by cases h
end Dx

/-! Dx.Obj2: C(..), self within __init__, methods, properties. -/
namespace Dx
open PySem PySem.Spec PyProof.Rows L2

section
variable {cn : Cn} {ad : Ad}
theorem upd2_some {H : Hp} {x dx a : Addr} {o u w : HO} (h : H a = some o) (n1 : H x = none) (n2 : H dx = none) : upd (upd H dx u) x w a = some o := by
  rw [upd_ne (ne_of_none h n1), upd_ne (ne_of_none h n2)]
  exact h
/-- from the promise of __init__ to that of C(..) -/
theorem make_run {n : Nat} {mi : Fm} {Hf H : Hp} {g : G} {ds : List D} {vs : List V} {Q : VK} {E : XK} {x dx : Addr} (sm : Same Hf H) (dc : DiceOk cn Hf H ad g) (r : RVals cn ad Hf ds vs) (nx : H x = none) (ndx : H dx = none) (ne : dx ≠ x)
    (h : match mkC n mi ds g with
      | .ok e g' => ∀ v H' Hf', Aft cn ad g g' H Hf H' Hf' → RVal cn ad Hf' e.d v → Q v H'
      | .ex y g' => ∀ cls dd H' Hf', Aft cn ad g g' H Hf H' Hf' → RX cn ad Hf' y cls dd → E cls dd H'
      | .bad => False) :
    spI cn n mi (.ref x :: vs) (upd (upd H dx (.own x)) x (.ins (cn.cA n) dx [])) (fun v H2 => v = .non ∧ Q (.ref x) H2) E := by
  have nfx : Hf x = none := sm.free nx
  have nfd : Hf dx = none := sm.free ndx
  have up : ∀ a o, H a = some o → upd (upd H dx (.own x)) x (.ins (cn.cA n) dx []) a = some o := fun a o e => upd2_some e nx ndx
  have dc0 : DiceOk cn Hf (upd (upd H dx (.own x)) x (.ins (cn.cA n) dx [])) { ad with oa := x, od := dx } { g with ob := some (n, []) } := by
    refine ⟨fun a b c q => ?_, fun k fs q => ?_, dc.tb.keep (Same.refl _) (fun a hT => by
      obtain ⟨ps, e⟩ := dc.tb.at_ hT
      rw [e]
      exact up _ _ e) fun _ _ => rfl⟩
    · obtain ⟨h1, h2⟩ := dc.dc a b c q
      exact ⟨h1, up _ _ h2⟩
    · cases q
      refine ⟨nfx, nfd, ne, .inl (by show upd (upd H dx _) x _ dx = _; rw [upd_ne ne, upd_same]), [], .inl ⟨upd_same, rfl⟩, rfl, fun i d e => by simp at e⟩
  refine ⟨Hf, { ad with oa := x, od := dx }, ds, { g with ob := some (n, []) }, vs, rfl, rfl, fun a o e => up a o (sm a o e), dc0, RVals.re (ad := ad) (ad' := { ad with oa := x, od := dx }) rfl _ _ r, ?_⟩
  -- what lies apart stays
  have fra : ∀ {g2 : G} {H' Hf' : Hp}, Aft cn { ad with oa := x, od := dx } { g with ob := some (n, []) } g2 (upd (upd H dx (.own x)) x (.ins (cn.cA n) dx [])) Hf H' Hf' →
      ∀ a o, H a = some o → Hf a = none → ¬ (g.sh.1 = true ∧ a = ad.d) → ¬ isT cn a → H' a = some o ∧ Hf' a = none ∧ a ≠ x ∧ a ≠ dx := fun {g2 H' Hf'} A a o h1 h2 h3 h3' => by
    have n1 : a ≠ x := ne_of_none h1 nx
    have n2 : a ≠ dx := ne_of_none h1 ndx
    obtain ⟨e1, e2⟩ := A.frame a o (up a o h1) h2 (by
      rintro (z | ⟨_, z⟩ | z)
      · exact h3 z
      · rcases z with z | z
        · exact n1 z
        · exact n2 z
      · exact h3' z)
    exact ⟨e1, e2, n1, n2⟩
  -- the outer object, if there is one
  have obj : ∀ {g2 : G} {H' Hf' Hf2 : Hp}, Aft cn { ad with oa := x, od := dx } { g with ob := some (n, []) } g2 (upd (upd H dx (.own x)) x (.ins (cn.cA n) dx [])) Hf H' Hf' → Same Hf' Hf2 → (∀ b, b ≠ x → b ≠ dx → Hf2 b = Hf' b) →
      ObOk cn Hf2 H' ad g := fun {g2 H' Hf' Hf2} A s2 h2 k fs q => by
    obtain ⟨q1, q2, q3, q4, us, q5, q6⟩ := dc.obj k fs q
    have hd : g.d.isSome = true → ad.oa ≠ ad.d ∧ ad.od ≠ ad.d := fun hs => by
      cases e : g.d with
      | none =>
        rw [e] at hs
        cases hs
      | some t =>
        obtain ⟨a, b, c⟩ := t
        have hl := (dc.dc a b c e).2
        constructor
        · intro z
          rcases q5 with ⟨w, _⟩ | ⟨w, _⟩
          · rw [z, hl] at w
            cases w
          · rw [z, hl] at w
            unfold SlX.SlO at w
            cases w
        · intro z
          rcases q4 with w | w
          · rw [z, hl] at w
            cases w
          · rw [z, hl] at w
            cases w
    obtain ⟨u, hu⟩ := slt_there q5
    obtain ⟨e1, e2, e3, e4⟩ := fra A ad.oa u hu q1 (fun z => (hd z.1).1 z.2) fun z => by
      obtain ⟨ps, e⟩ := dc.tb.at_ z
      rcases q5 with ⟨w, _⟩ | ⟨w, _⟩
      · rw [e] at w
        cases w
      · rw [e] at w
        unfold SlX.SlO at w
        cases w
    have hod : ∃ w, H ad.od = some w := q4.elim (fun w => ⟨_, w⟩) fun w => ⟨_, w⟩
    obtain ⟨w, hw⟩ := hod
    obtain ⟨f1, f2, f3, f4⟩ := fra A ad.od w hw q2 (fun z => (hd z.1).2 z.2) fun z => by
      obtain ⟨ps, e⟩ := dc.tb.at_ z
      rcases q4 with w | w
      · rw [e] at w
        cases w
      · rw [e] at w
        cases w
    refine ⟨by rw [h2 _ e3 e4]; exact e2, by rw [h2 _ f3 f4]; exact f2, q3, ?_, us, ?_, q6.mono (A.grow.trans s2)⟩
    · rw [f1, ← hw]
      exact q4
    · rcases q5 with ⟨z, e⟩ | ⟨z, e⟩
      · refine .inl ⟨?_, e⟩
        rw [e1, ← hu]
        exact z
      · refine .inr ⟨?_, ?_⟩
        · rw [e1, ← hu]
          exact z
        · rw [f1, ← hw]
          exact e
  have aft : ∀ {g2 : G} {H' Hf' Hf2 : Hp}, Aft cn { ad with oa := x, od := dx } { g with ob := some (n, []) } g2 (upd (upd H dx (.own x)) x (.ins (cn.cA n) dx [])) Hf H' Hf' → Same Hf' Hf2 → Same Hf2 H' → (∀ b, b ≠ x → b ≠ dx → Hf2 b = Hf' b) →
      Aft cn ad g { g2 with ob := g.ob } H Hf H' Hf2 := fun {g2 H' Hf' Hf2} A s2 s3 h2 => by
    refine ⟨A.grow.trans s2, s3, fun a o h1 h3 h4 => ?_, ⟨fun a b c q => ?_, obj A s2 h2, A.dice.tb.keep s2 (fun _ _ => rfl) fun b hT => ?_⟩, ?_⟩
    · obtain ⟨e1, e2, e3, e4⟩ := fra A a o h1 h3 (fun z => h4 (.inl z)) fun z => h4 (.inr (.inr z))
      exact ⟨e1, by rw [h2 _ e3 e4]; exact e2⟩
    · obtain ⟨h3, h4⟩ := A.dice.dc a b c q
      have e1 : ad.d ≠ x ∧ ad.d ≠ dx := by
        have hs : g.d.isSome = true := by
          have := congrArg Prod.fst A.hgs
          have q' : g2.d = some (a, b, c) := q
          have t1 : g2.d.isSome = g.d.isSome := this
          rw [← t1, q']
          rfl
        cases e : g.d with
        | none =>
          rw [e] at hs
          cases hs
        | some t =>
          obtain ⟨a', b', c'⟩ := t
          have hl := (dc.dc a' b' c' e).2
          exact ⟨ne_of_none hl nx, ne_of_none hl ndx⟩
      exact ⟨by rw [h2 _ e1.1 e1.2]; exact h3, h4⟩
    · obtain ⟨ps, e⟩ := dc.tb.at_ hT
      exact h2 _ (ne_of_none e nx) (ne_of_none e ndx)
    · have t1 : g2.d.isSome = g.d.isSome := congrArg Prod.fst A.hgs
      show (g2.d.isSome, g.ob.isSome) = (g.d.isSome, g.ob.isSome)
      rw [t1]
  unfold mkC at h
  cases e : mi ds { g with ob := some (n, []) } with
  | bad =>
    rw [e] at h
    exact h
  | ex y g2 =>
    rw [e] at h
    intro cls dd H' Hf' A rx
    refine h cls dd H' Hf' (aft A (Same.refl _) A.sub fun _ _ _ => rfl) ?_
    obtain ⟨r1, r2⟩ := rx
    refine ⟨r1, ?_⟩
    rcases r2 with r2 | ⟨d, a, v, h1, h2, h3, h4⟩
    · exact .inl r2
    · exact .inr ⟨d, a, v, h1, h2, h3, RVal.re (ad := { ad with oa := x, od := dx }) (ad' := ad) rfl _ _ h4⟩
  | ok ev g2 =>
    rw [e] at h
    cases ev with
    | o co => exact h.elim
    | v d =>
      cases d with
      | non =>
        intro v H' Hf' A rv
        refine ⟨rv, ?_⟩
        have h : match (match g2.ob with
          | some (n', f :: fs) => if n' = n then (match allS (f :: fs) with
            | some fs' => FR.ok (.v (.ins n fs')) { g2 with ob := g.ob }
            | none => .bad) else .bad
          | _ => .bad) with
          | .ok e g' => ∀ v H' Hf', Aft cn ad g g' H Hf H' Hf' → RVal cn ad Hf' e.d v → Q v H'
          | .ex y g' => ∀ cls dd H' Hf', Aft cn ad g g' H Hf H' Hf' → RX cn ad Hf' y cls dd → E cls dd H'
          | .bad => False := h
        cases e2 : g2.ob with
        | none =>
          rw [e2] at h
          exact h.elim
        | some t =>
          obtain ⟨n', fs0⟩ := t
          rw [e2] at h
          cases fs0 with
          | nil => exact h.elim
          | cons f fs =>
            have h : match (if n' = n then (match allS (f :: fs) with
              | some fs' => FR.ok (.v (.ins n fs')) { g2 with ob := g.ob }
              | none => .bad) else .bad) with
              | .ok e g' => ∀ v H' Hf', Aft cn ad g g' H Hf H' Hf' → RVal cn ad Hf' e.d v → Q v H'
              | .ex y g' => ∀ cls dd H' Hf', Aft cn ad g g' H Hf H' Hf' → RX cn ad Hf' y cls dd → E cls dd H'
              | .bad => False := h
            by_cases hn : n' = n
            · rw [if_pos hn] at h
              subst hn
              have h : match (match allS (f :: fs) with
                | some fs' => FR.ok (.v (.ins n' fs')) { g2 with ob := g.ob }
                | none => .bad) with
                | .ok e g' => ∀ v H' Hf', Aft cn ad g g' H Hf H' Hf' → RVal cn ad Hf' e.d v → Q v H'
                | .ex y g' => ∀ cls dd H' Hf', Aft cn ad g g' H Hf H' Hf' → RX cn ad Hf' y cls dd → E cls dd H'
                | .bad => False := h
              cases e3 : allS (f :: fs) with
              | none =>
                rw [e3] at h
                exact h.elim
              | some gs =>
                rw [e3] at h
                obtain ⟨z1, z2, z3, z4, us, z5, z6⟩ := A.dice.obj n' (f :: fs) e2
                have eg := allS_get e3
                have lus : us.length = gs.length := by
                  rw [← z6.1, eg, List.length_map]
                -- the object is whole
                have whole : ∃ ws : List V, us = ws.map some ∧ RVals cn ad Hf' gs ws := by
                  have all : ∀ (gs : List D) (us : List (Option V)), us.length = gs.length → (∀ (i : Nat) (d : D), gs[i]? = some d → ∃ v, us[i]? = some (some v) ∧ RVal cn ad Hf' d v) → ∃ ws : List V, us = ws.map some ∧ RVals cn ad Hf' gs ws := by
                    intro gs
                    induction gs with
                    | nil =>
                      intro us hl _
                      have : us = [] := List.length_eq_zero_iff.mp hl
                      subst this
                      exact ⟨[], rfl, rfl⟩
                    | cons d gs ih =>
                      intro us hl hh
                      cases us with
                      | nil => cases hl
                      | cons u us =>
                        obtain ⟨v, q1, q2⟩ := hh 0 d rfl
                        have q1' : u = some v := by simpa using q1
                        subst q1'
                        obtain ⟨ws, q3, q4⟩ := ih us (by simpa using hl) fun i d' q => by
                          obtain ⟨v', q5, q6⟩ := hh (i + 1) d' (by simpa using q)
                          exact ⟨v', by simpa using q5, q6⟩
                        exact ⟨v :: ws, by rw [q3]; rfl, .cons q2 q4⟩
                  refine all gs us lus fun i d q => ?_
                  obtain ⟨v, q1, q2⟩ := z6.2 i d (by rw [eg, List.getElem?_map, q]; rfl)
                  exact ⟨v, q1, RVal.re (ad := { ad with oa := x, od := dx }) (ad' := ad) rfl _ _ q2⟩
                obtain ⟨ws, ew, rw2⟩ := whole
                have nonempty : us ≠ [] := fun z => by
                  have := z6.1
                  rw [z] at this
                  cases this
                rcases z5 with ⟨_, z⟩ | ⟨z5, z7⟩
                · exact absurd z nonempty
                · have n1 : Hf' x = none := z1
                  have n2 : Hf' dx = none := z2
                  have s2 : Same Hf' (upd (upd Hf' dx (.xd [])) x (SlX.SlO x (cn.cA n') dx us)) := fun b u q => by
                    rw [upd_ne (ne_of_none q n1), upd_ne (ne_of_none q n2)]
                    exact q
                  have s3 : Same (upd (upd Hf' dx (.xd [])) x (SlX.SlO x (cn.cA n') dx us)) H' := upd_sub (upd_sub A.sub z7) z5
                  refine h (.ref x) H' _ (aft A s2 s3 fun b h1 h2 => by rw [upd_ne h1, upd_ne h2]) ?_
                  refine ⟨x, dx, ws, rfl, ?_, ?_, rw2.mono s2⟩
                  · rw [upd_same, ew]
                  · rw [upd_ne ne, upd_same]
            · rw [if_neg hn] at h
              exact h.elim
      | _ => exact h.elim
end
end Dx

/-! Dx.Obj3: the forms of calls, by what a callee promises by data. -/
namespace Dx
open PySem PySem.Spec PyProof.Rows L2

section
variable {X : Cx} {pins : List (Addr × Obj)} {σ : L2.St} {H : Hp} {s : Shared}
/-- the callee runs, what it raises is wished for at the caller's slots -/
theorem run_RS {CX : CXT} {k : Nat} {f : Addr} {sp : Sp} {E : XK} {Q : VK} {us : List Value} {vs : List V} (F : FnR X.prog X.w X.K X.mg X.base CX k f sp) (hr : Room k X.A) (hx : PassesAt CX X σ E) (I : Inv X pins σ H s) (r : Vals vs us) (h : sp vs H Q E) :
    codeAny (model X.prog X.w) X.A (.call (.ref f) ⟨us, []⟩) (fun r s' => match r with | .ok (.ret v) => EP X pins σ Q v s' | .ok _ => False | .error e => X.xe e s') s := by
  refine codeAny_mono (F X.A X.stack s H us vs Q E hr I.env0 r h) fun r s' hq => ?_
  cases r with
  | error e => exact hx pins H s e s' I hq
  | ok fl =>
    cases fl with
    | ret u => exact I.after hq
    | next => exact False.elim hq
    | brk => exact False.elim hq
    | cont => exact False.elim hq
/-- C(..) runs -/
theorem run_makeRS {CX : CXT} {k : Nat} {C f : Addr} {sp : Sp} {E : XK} {Q : VK} {us : List Value} {vs : List V} (M : Mk X.K C f) (F : FnR X.prog X.w X.K X.mg X.base CX k f sp) (hr : Room (k + 1) X.A) (hx : PassesAt CX X σ E) (I : Inv X pins σ H s) (r : Vals vs us)
    (h : ∀ x dx, H x = none → H dx = none → dx ≠ x → sp (.ref x :: vs) (upd (upd H dx (.own x)) x (.ins C dx [])) (fun v H2 => v = .non ∧ Q (.ref x) H2) E) :
    wpAny (model X.prog X.w) X.A (call (.ref C) us) (EP X pins σ Q) X.xe s := by
  have hq := h (s.heap.objs.size + 1) s.heap.objs.size (I.hok.fresh (Nat.le_succ _)) (I.hok.fresh (Nat.le_refl _)) (Nat.ne_of_lt (Nat.lt_succ_self _))
  have I2 := Inv.made (C := C) I
  refine wpAny_call (make_map (f := f) I.kIn M.makes M.init (beq_iff_eq.mp M.fn) (codeAny_mono (F _ X.stack _ _ (Value.ref (s.heap.objs.size + 1) :: us) _ _ E (hr.make C us [])
    (I2.env0.make C us []) (Paired.cons (show RelV (V.ref (s.heap.objs.size + 1)) (Value.ref (s.heap.objs.size + 1)) from rfl) r) hq) fun r s' hq' => ?_))
  cases r with
  | error e => exact hx pins _ _ e s' I2 hq'
  | ok fl =>
    cases fl with
    | ret u =>
      obtain ⟨v, H', I3, rv, ev, q3⟩ := I2.after hq'
      subst ev
      exact ⟨rv, ⟨V.ref (s.heap.objs.size + 1), H', I3, rfl, q3⟩⟩
    | next => exact False.elim hq'
    | brk => exact False.elim hq'
    | cont => exact False.elim hq'
end

section
variable {X : Cx} {c : Ac} {W : WX} {o e : Expr} {es : List Expr} {pos p apos : Pos} {fo : LSt → Res D} {fs : LSt → Res (List D)} {m : Fm} {k : Nat} {f : Addr} {x mn : Str}
/-- f(e, ..) -/
theorem pe_callR {sp : Sp} {E : L2.St → XK} {t : TA} (F : FnR X.prog X.w X.K X.mg X.base (L2.CX X.prog X.w) k f sp) (hr : Room k X.A) (hx : ∀ σ, PassesAt (L2.CX X.prog X.w) X σ (E σ)) (hg : Gl X x) (hm : X.mg x = some (.ref f)) (hk : PySem.W.keepIn X.K (.ref f) = true)
    (ha : PA X (e :: es) t) (hdb : (x == ("__debug__" : Str)) = false := by decide) (he : starEach (e :: es) X.env = (false, eval e X.env) :: starEach es X.env := by rfl) (hpl : (backTo pos (starEach es X.env)).any (·.1) = false := by rfl) :
    PE X (.Call (.Name x p) (e :: es) [] pos) (fun σ H Q => t σ H fun vs H1 => sp vs H1 Q (E σ)) := by
  refine ⟨fun pins s σ H Q I h => ?_⟩
  refine wpAny_Call_Name_kw (ld_glob I hg hm ?_ hdb)
  refine PySem.W.callWith_K (h₀ := X.base) I.ok.mod.kin hk (thn (ha.run pos pins s σ H _ I h) fun us s1 ⟨vs, H1, I1, r, q⟩ => ⟨I1.kIn, ?_⟩) he hpl
  exact wpAny_call (run_RS F hr (hx σ) I1 r q)
theorem pe_callR0 {sp : Sp} {E : L2.St → XK} (F : FnR X.prog X.w X.K X.mg X.base (L2.CX X.prog X.w) k f sp) (hr : Room k X.A) (hx : ∀ σ, PassesAt (L2.CX X.prog X.w) X σ (E σ)) (hg : Gl X x) (hm : X.mg x = some (.ref f)) (hk : PySem.W.keepIn X.K (.ref f) = true)
    (hdb : (x == ("__debug__" : Str)) = false := by decide) : PE X (.Call (.Name x p) [] [] pos) (fun σ H Q => sp [] H Q (E σ)) := by
  refine ⟨fun pins s σ H Q I h => ?_⟩
  refine wpAny_Call_Name_kw (ld_glob I hg hm ?_ hdb)
  exact PySem.W.callWith_K0 I.kIn hk (wpAny_call (run_RS (us := []) F hr (hx σ) I .nil h))
/-- what a callee's end is, as a result -/
def frRes (l : LSt) : FR → Res D
  | .ok e g => .ok e.d (l.withG g)
  | .ex x g => .ex x (l.withG g)
  | .bad => .bad
theorem sCall_eq {m : Fm} {ds : List D} {l : LSt} : (match m ds l.g with
  | .ok e g => .ok e.d (l.withG g)
  | .ex x g => .ex x (l.withG g)
  | .bad => .bad : Res D) = frRes l (m ds l.g) := by cases m ds l.g <;> rfl
theorem spF_res {σ : L2.St} {H Hf : Hp} {l : LSt} {Q : VK} {ds : List D} {vs : List V} (R : REnv c Hf σ H l) (r : RVals c.toCn c.ad Hf ds vs) (h : wpR (frRes l (m ds l.g)) (PD c σ Q Hf) (PX c W σ Hf)) : spF c.toCn m vs H (LkP Q) (WE W σ) :=
  spF_of R r (by
    cases e : m ds l.g with
    | ok ev g => rw [e] at h; exact h
    | ex x g => rw [e] at h; exact h
    | bad => rw [e] at h; exact h)
theorem de_callR (F : FnR X.prog X.w X.K X.mg X.base (L2.CX X.prog X.w) k f (spF c.toCn m)) (hr : Room k X.A) (tk : Takes X W) (hg : Gl X x) (hm : X.mg x = some (.ref f)) (hk : PySem.W.keepIn X.K (.ref f) = true)
    (ha : DA X c W (e :: es) fs) (hdb : (x == ("__debug__" : Str)) = false := by decide) (he : starEach (e :: es) X.env = (false, eval e X.env) :: starEach es X.env := by rfl) (hpl : (backTo pos (starEach es X.env)).any (·.1) = false := by rfl) :
    DE X c W (.Call (.Name x p) (e :: es) [] pos) (sCall m fs) :=
  ⟨(pe_fz (pe_callR F hr (fun σ => passAt tk σ) hg hm hk ha.pa hdb he hpl)).imp' fun σ H Q ⟨Hf, l, R, h⟩ => run_bindA PD.mo R h fun ds l1 vs H1 Hf1 R1 s1 r1 h1 => spF_res R1 r1 (by rw [← sCall_eq]; exact h1)⟩
theorem do_callR (F : FnR X.prog X.w X.K X.mg X.base (L2.CX X.prog X.w) k f (spF c.toCn m)) (hr : Room k X.A) (tk : Takes X W) (hg : Gl X x) (hm : X.mg x = some (.ref f)) (hk : PySem.W.keepIn X.K (.ref f) = true)
    (ha : DA X c W (e :: es) fs) (hdb : (x == ("__debug__" : Str)) = false := by decide) (he : starEach (e :: es) X.env = (false, eval e X.env) :: starEach es X.env := by rfl) (hpl : (backTo pos (starEach es X.env)).any (·.1) = false := by rfl) :
    DO X c W (.Call (.Name x p) (e :: es) [] pos) (sCallO m fs) :=
  ⟨(pe_callR F hr (fun σ => passAt tk σ) hg hm hk ha.pa hdb he hpl).imp' fun σ H Q ⟨Hf, l, R, h⟩ => run_bindA PO'.mo R h fun ds l1 vs H1 Hf1 R1 s1 r1 h1 => spF_ofO R1 r1 (by
    cases e : m ds l1.g with
    | ok ev g =>
      rw [e] at h1
      cases ev with
      | v d => exact h1.elim
      | o co => exact h1
    | ex x g => rw [e] at h1; exact h1
    | bad => rw [e] at h1; exact h1)⟩
theorem de_callR0 (F : FnR X.prog X.w X.K X.mg X.base (L2.CX X.prog X.w) k f (spF c.toCn m)) (hr : Room k X.A) (tk : Takes X W) (hg : Gl X x) (hm : X.mg x = some (.ref f)) (hk : PySem.W.keepIn X.K (.ref f) = true)
    (hdb : (x == ("__debug__" : Str)) = false := by decide) : DE X c W (.Call (.Name x p) [] [] pos) (sCall m sNil) :=
  ⟨(pe_fz (pe_callR0 F hr (fun σ => passAt tk σ) hg hm hk hdb)).imp' fun σ H Q ⟨Hf, l, R, h⟩ => spF_res R .nil (by rw [← sCall_eq]; exact h)⟩
/-- C(e, ..) -/
theorem pe_makeR {C : Addr} {sp : Sp} {E : L2.St → XK} {t : TA} (M : Mk X.K C f) (F : FnR X.prog X.w X.K X.mg X.base (L2.CX X.prog X.w) k f sp) (hr : Room (k + 1) X.A) (hx : ∀ σ, PassesAt (L2.CX X.prog X.w) X σ (E σ)) (hg : Gl X x) (hm : X.mg x = some (.ref C))
    (ha : PA X (e :: es) t) (hdb : (x == ("__debug__" : Str)) = false := by decide) (he : starEach (e :: es) X.env = (false, eval e X.env) :: starEach es X.env := by rfl) (hpl : (backTo pos (starEach es X.env)).any (·.1) = false := by rfl) :
    PE X (.Call (.Name x p) (e :: es) [] pos) (fun σ H Q => t σ H fun vs H1 => ∀ x dx, H1 x = none → H1 dx = none → dx ≠ x → sp (.ref x :: vs) (upd (upd H1 dx (.own x)) x (.ins C dx [])) (fun v H2 => v = .non ∧ Q (.ref x) H2) (E σ)) := by
  refine ⟨fun pins s σ H Q I h => ?_⟩
  refine wpAny_Call_Name_kw (ld_glob I hg hm ?_ hdb)
  refine PySem.W.callWith_K (h₀ := X.base) I.ok.mod.kin M.kp (thn (ha.run pos pins s σ H _ I h) fun us s1 ⟨vs, H1, I1, r, q⟩ => ⟨I1.kIn, ?_⟩) he hpl
  exact run_makeRS M F hr (hx σ) I1 r q
theorem make_res {n : Nat} {mi : Fm} {σ : L2.St} {H Hf : Hp} {l : LSt} {Q : VK} {ds : List D} {vs : List V} {x dx : Addr} (R : REnv c Hf σ H l) (r : RVals c.toCn c.ad Hf ds vs) (nx : H x = none) (ndx : H dx = none) (ne : dx ≠ x)
    (h : wpR (frRes l (mkC n mi ds l.g)) (PD c σ Q Hf) (PX c W σ Hf)) : spI c.toCn n mi (.ref x :: vs) (upd (upd H dx (.own x)) x (.ins (c.cA n) dx [])) (fun v H2 => v = .non ∧ Q (.ref x) H2) (WE W σ) := by
  refine make_run R.sub R.dice r nx ndx ne ?_
  cases e : mkC n mi ds l.g with
  | bad =>
    rw [e] at h
    exact h
  | ex y g =>
    rw [e] at h
    exact fun cls dd H' Hf' A rx => h cls dd H' Hf' (R.after A) A.grow rx
  | ok ev g =>
    rw [e] at h
    exact fun v H' Hf' A rv => h v H' Hf' (R.after A) A.grow rv
theorem de_make {n : Nat} {mi : Fm} (M : Mk X.K (c.cA n) f) (F : FnR X.prog X.w X.K X.mg X.base (L2.CX X.prog X.w) k f (spI c.toCn n mi)) (hr : Room (k + 1) X.A) (tk : Takes X W) (hg : Gl X x) (hm : X.mg x = some (.ref (c.cA n)))
    (ha : DA X c W (e :: es) fs) (hdb : (x == ("__debug__" : Str)) = false := by decide) (he : starEach (e :: es) X.env = (false, eval e X.env) :: starEach es X.env := by rfl) (hpl : (backTo pos (starEach es X.env)).any (·.1) = false := by rfl) :
    DE X c W (.Call (.Name x p) (e :: es) [] pos) (sCall (mkC n mi) fs) :=
  ⟨(pe_makeR M F hr (fun σ => passAt tk σ) hg hm ha.pa hdb he hpl).imp' fun σ H Q ⟨Hf, l, R, h⟩ => run_bindA PD.mo R h fun ds l1 vs H1 Hf1 R1 s1 r1 h1 x dx n1 n2 n3 => make_res R1 r1 n1 n2 n3 (by rw [← sCall_eq]; exact h1)⟩

/-! ### methods -/
/-- the methods of the name, by class -/
structure MthOk (P : Program) (w : World) (mg : Str → Option Value) (base : Heap) (cn : Cn) (k : Nat) (mn : Str) (tb : Nat → Option Fm) : Prop where
  ok : ∀ n m, tb n = some m → SlX.SCls cn.K (cn.cA n) ∧ ∃ g, Meth cn.K (cn.cA n) mn g ∧ FnR P w cn.K mg base (L2.CX P w) k g (spF cn m)
def sMth (tb : Nat → Option Fm) (fo : LSt → Res D) (fs : LSt → Res (List D)) : LSt → Res D := fun l => (fo l).bind fun d l => match d with
  | .ins n ff => (match tb n with
    | some m => (fs l).bind fun ds l => frRes l (m (.ins n ff :: ds) l.g)
    | none => .bad)
  | _ => .bad
def tMth (c : Ac) (W : WX) (tb : Nat → Option Fm) (fo : LSt → Res D) (fs : LSt → Res (List D)) : TE := fun σ H Q => tD c W fo σ H fun x H1 => ∃ n m a dx vs, tb n = some m ∧ x = .ref a ∧ SlX.Slt H1 a (c.cA n) dx vs ∧ tA c W fs σ H1 fun ws H2 => spF c.toCn m (x :: ws) H2 Q (WE W σ)
theorem mth_run {tb : Nat → Option Fm} {σ : L2.St} {H : Hp} {Q : VK} (h : tD c W (sMth tb fo fs) σ H Q) :
    tD c W fo σ H fun x H1 => ∃ n m a dx vs, tb n = some m ∧ x = .ref a ∧ SlX.Slt H1 a (c.cA n) dx vs ∧ tA c W fs σ H1 fun ws H2 => spF c.toCn m (x :: ws) H2 (LkP Q) (WE W σ) := by
  obtain ⟨Hf, l, R, h⟩ := h
  refine run_bind PD.mo R h fun d l1 x H1 Hf1 R1 s1 r1 h1 => ?_
  cases d with
  | ins n ff =>
    have h1 : wpR (match tb n with
      | some m => (fs l1).bind fun ds l => frRes l (m (.ins n ff :: ds) l.g)
      | none => .bad) (PD c σ Q Hf1) (PX c W σ Hf1) := h1
    cases e : tb n with
    | none =>
      rw [e] at h1
      exact h1.elim
    | some m =>
      rw [e] at h1
      have r0 := r1
      obtain ⟨a, dx, vs, rfl, ha, hd, rv⟩ := r1
      refine ⟨n, m, a, dx, vs.map some, e, rfl, .inr ⟨R1.sub _ _ ha, R1.sub _ _ hd⟩, ?_⟩
      exact run_bindA PD.mo R1 h1 fun ds l2 ws H2 Hf2 R2 s2 r2 h2 => spF_res R2 (.cons (r0.mono s2) r2) h2
  | _ => exact h1.elim
theorem de_mth {pl : Sem Bool} {tb : Nat → Option Fm} (hK : X.K = c.K) (ok : MthOk X.prog X.w X.mg X.base c.toCn k mn tb) (hr : Room k X.A) (tk : Takes X W) (ho : DE X c W o fo) (ha : DA X c W (e :: es) fs)
    (hst : starEach (e :: es) X.env = (false, eval e X.env) :: starEach es X.env := by rfl) (hpl : (backTo pos (starEach es X.env)).any (·.1) = false := by rfl)
    (ht : eval (.Call (.Attribute o mn apos) (e :: es) [] pos) X.env = (do
      let ov ← eval o X.env
      standAt apos.atName
      let (f, first) ← holding [ov] (getMethod ov mn pl)
      callWith pos f first (backTo pos (starEach (e :: es) X.env)) (backToKw pos (keywordEach [] X.env))) := by rfl) :
    DE X c W (.Call (.Attribute o mn apos) (e :: es) [] pos) (sMth tb fo fs) := by
  refine ⟨(pe_fz (t := tMth c W tb fo fs) ⟨fun pins s σ H Q I h => ?_⟩).imp' fun _ _ _ h => mth_run h⟩
  refine PySem.W.methodCall_KW (pl := pl) (thn (ho.pe.run pins s σ H _ I h) fun u s1 ⟨x, H1, I1, rx, n, m, a, dx, vs, et, ex, hsl, q⟩ => ?_) ht
  subst ex
  obtain rfl : u = Value.ref a := rx
  obtain ⟨sc, g, hm, F⟩ := ok.ok n m et
  rw [← hK] at sc hm F
  refine SlX.getmethsl_ok I1 hsl sc hm ?_
  refine PySem.W.callWith_K (first := [.ref a]) (h₀ := X.base) I.ok.mod.kin hm.kp (thn (ha.pa.run pos pins s1 σ H1 _ I1 q) fun us s2 ⟨ws, H2, I2, r, q2⟩ => ⟨I2.kIn, ?_⟩) hst hpl
  exact wpAny_call (run_RS (us := .ref a :: us) (vs := .ref a :: ws) F hr (passAt tk σ) I2 (.cons rfl r) q2)
theorem de_mth0 {pl : Sem Bool} {tb : Nat → Option Fm} (hK : X.K = c.K) (ok : MthOk X.prog X.w X.mg X.base c.toCn k mn tb) (hr : Room k X.A) (tk : Takes X W) (ho : DE X c W o fo)
    (ht : eval (.Call (.Attribute o mn apos) [] [] pos) X.env = (do
      let ov ← eval o X.env
      standAt apos.atName
      let (f, first) ← holding [ov] (getMethod ov mn pl)
      callWith pos f first (backTo pos (starEach [] X.env)) (backToKw pos (keywordEach [] X.env))) := by rfl) :
    DE X c W (.Call (.Attribute o mn apos) [] [] pos) (sMth tb fo sNil) := by
  refine ⟨(pe_fz (t := tMth c W tb fo sNil) ⟨fun pins s σ H Q I h => ?_⟩).imp' fun _ _ _ h => mth_run h⟩
  refine PySem.W.methodCall_KW (pl := pl) (thn (ho.pe.run pins s σ H _ I h) fun u s1 ⟨x, H1, I1, rx, n, m, a, dx, vs, et, ex, hsl, q⟩ => ?_) ht
  subst ex
  obtain rfl : u = Value.ref a := rx
  obtain ⟨sc, g, hm, F⟩ := ok.ok n m et
  rw [← hK] at sc hm F
  refine SlX.getmethsl_ok I1 hsl sc hm ?_
  obtain ⟨Hf, l, R, h⟩ := q
  refine PySem.W.callWith_K0 (first := [.ref a]) I1.kIn hm.kp (wpAny_call (run_RS (us := [.ref a]) (vs := [.ref a]) F hr (passAt tk σ) I1 (.cons rfl .nil) (h [] H1 Hf R (Same.refl _) .nil)))
/-- e.f, a property -/
structure PrpOk (P : Program) (w : World) (mg : Str → Option Value) (base : Heap) (cn : Cn) (k : Nat) (f : Str) (tb : Nat → Option Fm) : Prop where
  ok : ∀ n m, tb n = some m → SlX.SCls cn.K (cn.cA n) ∧ ∃ p g, PySem.W.findIn cn.K (.ref (cn.cA n)) f = some (some (.ref p)) ∧ PySem.W.specialIn cn.K (.ref p) "__get__" = some (some (.builtin "property.__get__")) ∧
    PySem.W.takesIn cn.K (.ref p) = some true ∧ (∃ rest, PySem.W.recIn cn.K p "property" = some (.ref g :: rest)) ∧ FnR P w cn.K mg base (L2.CX P w) k g (spF cn m)
def sPrp (tb : Nat → Option Fm) (fo : LSt → Res D) : LSt → Res D := fun l => (fo l).bind fun d l => match d with
  | .ins n ff => (match tb n with
    | some m => (match m [.ins n ff] l.g with
      | .ok e g => .ok e.d (l.withG g)
      | _ => .bad)
    | none => .bad)
  | _ => .bad
theorem cx_false {P : Program} {w : World} {outer : List Env} {H : Hp} {s s' : Shared} {e : Value} (h : L2.CX P w outer H s (fun _ _ _ => False) e s') : False := by
  obtain ⟨_, _, _, _, _, _, _, _, _, _, _, _, z⟩ := h
  exact z.elim
theorem de_prp {tb : Nat → Option Fm} {fn : Str} (hK : X.K = c.K) (ok : PrpOk X.prog X.w X.mg X.base c.toCn k fn tb) (hr : Room (k + 1) X.A) (he : DE X c W e fo) (hb : attributeBase e fn X.env (eval e X.env) = eval e X.env := by rfl) : DE X c W (.Attribute e fn pos) (sPrp tb fo) := by
  have h2 : ∀ σ H Q, tD c W (sPrp tb fo) σ H Q → tD c W fo σ H fun x H1 => ∃ n m a dx vs, tb n = some m ∧ x = .ref a ∧ SlX.Slt H1 a (c.cA n) dx vs ∧ spF c.toCn m [x] H1 (LkP Q) (fun _ _ _ => False) := by
    intro σ H Q h
    obtain ⟨Hf, l, R, h⟩ := h
    refine run_bind PD.mo R h fun d l1 x H1 Hf1 R1 s1 r1 h1 => ?_
    cases d with
    | ins n ff =>
      have h1 : wpR (match tb n with
        | some m => (match m [.ins n ff] l1.g with
          | .ok e g => .ok e.d (l1.withG g)
          | _ => .bad)
        | none => .bad) (PD c σ Q Hf1) (PX c W σ Hf1) := h1
      cases e : tb n with
      | none =>
        rw [e] at h1
        exact h1.elim
      | some m =>
        rw [e] at h1
        have r0 := r1
        obtain ⟨a, dx, vs, rfl, ha, hd, rv⟩ := r1
        refine ⟨n, m, a, dx, vs.map some, e, rfl, .inr ⟨R1.sub _ _ ha, R1.sub _ _ hd⟩, ?_⟩
        have h1 : wpR (match m [.ins n ff] l1.g with
          | .ok e g => .ok e.d (l1.withG g)
          | _ => .bad) (PD c σ Q Hf1) (PX c W σ Hf1) := h1
        have z := spF_of (W := fun _ _ _ _ => False) (m := m) (Q := Q) R1 (.cons r0 .nil) (by
          cases e2 : m [.ins n ff] l1.g with
          | ok ev g =>
            rw [e2] at h1
            exact h1
          | ex y g =>
            rw [e2] at h1
            exact h1.elim
          | bad =>
            rw [e2] at h1
            exact h1)
        exact z
    | _ => exact h1.elim
  refine ⟨(pe_fz (t := fun σ H Q => tD c W fo σ H fun x H1 => ∃ n m a dx vs, tb n = some m ∧ x = .ref a ∧ SlX.Slt H1 a (c.cA n) dx vs ∧ spF c.toCn m [x] H1 Q (fun _ _ _ => False)) ⟨fun pins s σ H Q I h => ?_⟩).imp' h2⟩
  refine attr_of hb (thn (he.pe.run pins s σ H _ I h) fun u s1 ⟨x, H1, I1, rx, n, m, a, dx, vs, et, ex, hsl, q⟩ => ?_)
  subst ex
  obtain rfl : u = Value.ref a := rx
  obtain ⟨sc, p, g, at_, get, tk, rc, F⟩ := ok.ok n m et
  rw [← hK] at sc at_ get tk rc F
  exact prop_sl I1 hsl sc at_ get tk rc F hr (fun _ _ _ _ z => cx_false z) q
end
end Dx

/-! Dx.Self: self within __init__; what an __init__ promises. -/
namespace Dx
open PySem PySem.Spec PyProof.Rows L2

def putO (i : Nat) (d : D) (fs : List (Option D)) : List (Option D) := (fs ++ List.replicate (i + 1 - fs.length) none).set i (some d)
theorem ROs.put {cn : Cn} {ad : Ad} {Hf : Hp} {fs : List (Option D)} {us : List (Option V)} {d : D} {v : V} (r : ROs cn ad Hf fs us) (i : Nat) (h : RVal cn ad Hf d v) : ROs cn ad Hf (putO i d fs) (SlX.putS i v us) := by
  refine ⟨?_, fun j e q => ?_⟩
  · unfold putO SlX.putS
    simp only [List.length_set, List.length_append, List.length_replicate]
    rw [r.1]
  · by_cases hj : j = i
    · subst hj
      unfold putO at q
      rw [List.getElem?_set_self (by simp only [List.length_append, List.length_replicate]; omega)] at q
      cases q
      exact ⟨v, SlX.putS_get _ _ _, h⟩
    · unfold putO at q
      rw [List.getElem?_set_ne (Ne.symm hj)] at q
      by_cases hl : j < fs.length
      · rw [List.getElem?_append_left hl] at q
        obtain ⟨w, h1, h2⟩ := r.2 j e q
        exact ⟨w, (SlX.putS_ne hj).mpr h1, h2⟩
      · rw [List.getElem?_append_right (by omega), List.getElem?_replicate] at q
        split at q
        · cases q
        · cases q
/-- a field of the object that is being made is stored -/
theorem REnv.setf {c : Ac} {Hf H : Hp} {σ : L2.St} {l : LSt} (R : REnv c Hf σ H l) {n : Nat} {fs : List (Option D)} {us : List (Option V)} {i : Nat} {d : D} {v : V} (hob : l.g.ob = some (n, fs)) (hs : SlX.Slt H c.ad.oa (c.cA n) c.ad.od us) (r : ROs c.toCn c.ad Hf fs us) (rv : RVal c.toCn c.ad Hf d v) :
    REnv c Hf σ (SlX.slH H c.ad.oa (c.cA n) c.ad.od (SlX.putS i v us)) { l with g := { l.g with ob := some (n, putO i d fs) } } := by
  obtain ⟨q1, q2, q3, q4, _, _, _⟩ := R.dice.obj n fs hob
  have hsome : l.g.sh.2 = true := by
    show l.g.ob.isSome = true
    rw [hob]
    rfl
  have hne : ∀ {a : Addr}, ¬ isD c.toCn l.g c.ad a → a ≠ c.ad.oa ∧ a ≠ c.ad.od := fun {a} nd => ⟨fun z => nd (.inr (.inl ⟨hsome, .inl z⟩)), fun z => nd (.inr (.inl ⟨hsome, .inr z⟩))⟩
  have sh : ({ l.g with ob := some (n, putO i d fs) } : G).sh = l.g.sh := by
    show (l.g.d.isSome, true) = (l.g.d.isSome, l.g.ob.isSome)
    rw [hob]
    rfl
  have isd : ∀ a, isD c.toCn ({ l.g with ob := some (n, putO i d fs) } : G) c.ad a ↔ isD c.toCn l.g c.ad a := fun a => isD_iff sh
  have keep : ∀ a, a ≠ c.ad.oa → a ≠ c.ad.od → SlX.slH H c.ad.oa (c.cA n) c.ad.od (SlX.putS i v us) a = H a := fun a h1 h2 => SlX.slH_ne h1 h2
  have tbk : TbOk c.toCn Hf (SlX.slH H c.ad.oa (c.cA n) c.ad.od (SlX.putS i v us)) := R.dice.tb.keep (Same.refl _) (fun a hT => keep a (by
      rcases hs with ⟨h, _⟩ | ⟨h, _⟩
      · exact R.dice.tb.ne hT h fun ps z => by cases z
      · exact R.dice.tb.ne hT h fun ps z => by unfold SlX.SlO at z; cases z) (by
      rcases q4 with h | h
      · exact R.dice.tb.ne hT h fun ps z => by cases z
      · exact R.dice.tb.ne hT h fun ps z => by cases z)) fun _ _ => rfl
  refine ⟨R.len, fun j s hj => ?_, R.dis, fun b u hb => ?_, R.base, fun b u hb => ?_, ⟨fun x y z q => ?_, fun k gs q => ?_, tbk⟩, sh.trans R.hgs⟩
  · obtain ⟨x, e, q⟩ := R.slot j s hj
    refine ⟨x, e, ?_⟩
    cases s with
    | un => exact True.intro
    | slf => exact q
    | fn => exact q
    | er _ _ => exact q
    | v d => exact q
    | own co' =>
      obtain ⟨a', o', qa, ha', r', n', n0', nd'⟩ := q
      obtain ⟨e1, e2⟩ := hne nd'
      exact ⟨a', o', qa, by rw [keep a' e1 e2]; exact ha', r', n', n0', fun z => nd' ((isd a').mp z)⟩
  · have e1 : b ≠ c.ad.oa := fun z => by
      rw [z, q1] at hb
      cases hb
    have e2 : b ≠ c.ad.od := fun z => by
      rw [z, q2] at hb
      cases hb
    rw [keep b e1 e2]
    exact R.sub b u hb
  · obtain ⟨f1, f2, f3⟩ := R.frame b u hb
    obtain ⟨e1, e2⟩ := hne f3
    exact ⟨by rw [keep b e1 e2]; exact f1, f2, fun z => f3 ((isd b).mp z)⟩
  · obtain ⟨h1, h2⟩ := R.dice.dc x y z q
    have e1 : c.ad.d ≠ c.ad.oa := fun w => by
      rcases hs with ⟨h, _⟩ | ⟨h, _⟩
      · rw [← w, h2] at h
        cases h
      · rw [← w, h2] at h
        unfold SlX.SlO at h
        cases h
    have e2 : c.ad.d ≠ c.ad.od := fun w => by
      rcases q4 with h | h
      · rw [← w, h2] at h
        cases h
      · rw [← w, h2] at h
        cases h
    exact ⟨h1, by rw [keep _ e1 e2]; exact h2⟩
  · cases q
    refine ⟨q1, q2, q3, .inr ?_, SlX.putS i v us, SlX.slH_slt q3, r.put i rv⟩
    unfold SlX.slH
    rw [upd_ne q3, upd_same]
def sSelf (i : Nat) (tb : Nat → Option Nat) : LSt → Res D := fun l => match l.sl[i]? with
  | some .slf => (match l.g.ob with
    | some (n, fs) => opt ((tb n).bind fun j => (fs[j]?).bind id) l
    | none => .bad)
  | _ => .bad
def zSelf (i : Nat) (tb : Nat → Option Nat) (fe : LSt → Res D) : LSt → Fl := fun l => (fe l).toFl fun d l => match l.sl[i]? with
  | some .slf => (match l.g.ob with
    | some (n, fs) => (match tb n with
      | some j => .nx { l with g := { l.g with ob := some (n, putO j d fs) } }
      | none => .bad)
    | none => .bad)
  | _ => .bad
section
variable {X : Cx} {c : Ac} {W : WX} {e : Expr} {pos pos' np : Pos} {fe : LSt → Res D} {f x : Str} {tb : Nat → Option Nat} {i : Nat}
theorem de_self (hK : X.K = c.K) (ok : AttrOk c.toCn f tb) (p : PE X (.Name x np) (tVar i)) (hb : attributeBase (.Name x np) f X.env (eval (.Name x np) X.env) = eval (.Name x np) X.env := by rfl) : DE X c W (.Attribute (.Name x np) f pos) (sSelf i tb) :=
  ⟨(SlX.pe_sl p hb).imp' fun σ H Q ⟨Hf, l, R, h⟩ => by
    unfold sSelf at h
    cases e1 : l.sl[i]? with
    | none =>
      rw [e1] at h
      exact h.elim
    | some s =>
      rw [e1] at h
      cases s with
      | slf =>
        obtain ⟨x0, ex, rs⟩ := R.slot i _ e1
        have rs' : x0 = some (.ref c.ad.oa) := rs
        rw [rs'] at ex
        refine ⟨.ref c.ad.oa, ex, ?_⟩
        have h : wpR (match l.g.ob with
          | some (n, fs) => opt ((tb n).bind fun j => (fs[j]?).bind id) l
          | none => .bad) (PD c σ Q Hf) (PX c W σ Hf) := h
        cases e2 : l.g.ob with
        | none =>
          rw [e2] at h
          exact h.elim
        | some t =>
          obtain ⟨n, fs⟩ := t
          rw [e2] at h
          have h : wpR (opt ((tb n).bind fun j => (fs[j]?).bind id) l) (PD c σ Q Hf) (PX c W σ Hf) := h
          cases e3 : tb n with
          | none =>
            rw [e3] at h
            exact h.elim
          | some j =>
            rw [e3] at h
            have h : wpR (opt ((fs[j]?).bind id) l) (PD c σ Q Hf) (PX c W σ Hf) := h
            cases e4 : fs[j]? with
            | none =>
              rw [e4] at h
              exact h.elim
            | some o =>
              rw [e4] at h
              cases o with
              | none => exact h.elim
              | some d =>
                obtain ⟨q1, q2, q3, q4, us, q5, q6⟩ := R.dice.obj n fs e2
                obtain ⟨v, ev, rv⟩ := q6.2 j d e4
                obtain ⟨sc, p, sl⟩ := ok n j e3
                refine ⟨c.ad.oa, c.cA n, c.ad.od, p, us, j, v, rfl, q5, ?_, ?_, ev, PD.flat R h rv⟩
                · rw [hK]
                  exact sc
                · rw [hK]
                  exact sl
      | _ => exact h.elim⟩
theorem ds_self (hK : X.K = c.K) (ok : AttrOk c.toCn f tb) (p : PE X (.Name x np) (tVar i)) (he : DE X c W e fe) (hs : swapsWith e (some (.Attribute (.Name x np) f pos')) pos.line X.env = pure false := by rfl) : DS X c W (.Assign [.Attribute (.Name x np) f pos'] e pos) (zSelf i tb fe) :=
  ⟨(SlX.ps_sl p he.pe hs).imp' fun D σ H ⟨Hf, l, R, h⟩ => to_bind R h fun d l1 v H1 Hf1 R1 s1 r1 h1 => by
    cases e1 : l1.sl[i]? with
    | none =>
      rw [e1] at h1
      exact h1.elim
    | some s =>
      rw [e1] at h1
      cases s with
      | slf =>
        obtain ⟨x0, ex, rs⟩ := R1.slot i _ e1
        have rs' : x0 = some (.ref c.ad.oa) := rs
        rw [rs'] at ex
        refine ⟨.ref c.ad.oa, ex, ?_⟩
        have h1 : wpF c W D Hf1 (match l1.g.ob with
          | some (n, fs) => (match tb n with
            | some j => .nx { l1 with g := { l1.g with ob := some (n, putO j d fs) } }
            | none => .bad)
          | none => .bad) := h1
        cases e2 : l1.g.ob with
        | none =>
          rw [e2] at h1
          exact h1.elim
        | some t =>
          obtain ⟨n, fs⟩ := t
          rw [e2] at h1
          have h1 : wpF c W D Hf1 (match tb n with
            | some j => .nx { l1 with g := { l1.g with ob := some (n, putO j d fs) } }
            | none => .bad) := h1
          cases e3 : tb n with
          | none =>
            rw [e3] at h1
            exact h1.elim
          | some j =>
            rw [e3] at h1
            obtain ⟨q1, q2, q3, q4, us, q5, q6⟩ := R1.dice.obj n fs e2
            obtain ⟨sc, p, sl⟩ := ok n j e3
            refine ⟨c.ad.oa, c.cA n, c.ad.od, p, us, j, rfl, q5, ?_, ?_, h1 σ _ Hf1 (R1.setf e2 q5 q6 r1) (Same.refl _)⟩
            · rw [hK]
              exact sc
            · rw [hK]
              exact sl
      | _ => exact h1.elim⟩
end
/-! ### what an __init__ promises -/
def mOfI (n k : Nat) (fb : LSt → Fl) : Fm := fun ds g => if ds.length + 1 = k then (fb ⟨.slf :: ds.map .v ++ List.replicate (n - k) .un, g⟩).fr else .bad
theorem env_startI {cn : Cn} {ad : Ad} {Hf H : Hp} {ds : List D} {vs : List V} {g : G} {N : List Str} (s : Same Hf H) (d : DiceOk cn Hf H ad g) (r : RVals cn ad Hf ds vs) :
    REnv { toCn := cn, hid := hidOf cn H Hf g ad, Hf0 := Hf, ad := ad, gs := g.sh } Hf (L2.start N (.ref ad.oa :: vs)) H ⟨.slf :: ds.map .v ++ List.replicate (N.length - (ds.length + 1)) .un, g⟩ := by
  have lens : (L2.start N (V.ref ad.oa :: vs)) = some (V.ref ad.oa) :: (vs.map some ++ List.replicate (N.length - (vs.length + 1)) none) := rfl
  have sls : (Slot.slf :: ds.map Slot.v ++ List.replicate (N.length - (ds.length + 1)) Slot.un) = Slot.slf :: (ds.map Slot.v ++ List.replicate (N.length - (ds.length + 1)) Slot.un) := rfl
  refine ⟨?_, fun i x h => ?_, fun i j x y a h _ o _ _ _ => ?_, s, Same.refl _, fun _ _ h => hidOf_some h, d, rfl⟩
  · rw [lens, sls]
    simp only [List.length_cons, List.length_append, List.length_map, List.length_replicate]
    rw [r.length]
  · have h' : (Slot.slf :: (ds.map Slot.v ++ List.replicate (N.length - (ds.length + 1)) Slot.un))[i]? = some x := h
    rw [lens]
    cases i with
    | zero =>
      cases h'
      exact ⟨_, rfl, rfl⟩
    | succ i =>
      rw [List.getElem?_cons_succ] at h' ⊢
      by_cases hi : i < ds.length
      · rw [List.getElem?_append_left (by rw [List.length_map]; exact hi), List.getElem?_map, List.getElem?_eq_getElem hi] at h'
        cases h'
        obtain ⟨v, e1, e2⟩ := r.get (List.getElem?_eq_getElem hi)
        refine ⟨some v, ?_, v, rfl, e2⟩
        rw [List.getElem?_append_left (by rw [List.length_map, ← r.length]; exact hi), List.getElem?_map, e1]
        rfl
      · rw [List.getElem?_append_right (by rw [List.length_map]; omega), List.length_map, List.getElem?_replicate] at h'
        split at h'
        · rename_i hl
          cases h'
          refine ⟨none, ?_, True.intro⟩
          rw [List.getElem?_append_right (by rw [List.length_map, ← r.length]; omega), List.length_map, List.getElem?_replicate, ← r.length, if_pos hl]
        · cases h'
  · exfalso
    have h' : (Slot.slf :: (ds.map Slot.v ++ List.replicate (N.length - (ds.length + 1)) Slot.un))[i]? = some x := h
    cases i with
    | zero =>
      cases h'
      cases o
    | succ i =>
      rw [List.getElem?_cons_succ] at h'
      by_cases hi : i < ds.length
      · rw [List.getElem?_append_left (by rw [List.length_map]; exact hi), List.getElem?_map, List.getElem?_eq_getElem hi] at h'
        cases h'
        cases o
      · rw [List.getElem?_append_right (by rw [List.length_map]; omega), List.length_map, List.getElem?_replicate] at h'
        split at h'
        · cases h'
          cases o
        · cases h'
section
variable {P : Program} {w : World} {K : PySem.W.Frag} {mg : Str → Option Value} {base : Heap}
/-- the end of a body, as a def's -/
def EndW (cn : Cn) (ad : Ad) (g : G) (H Hf : Hp) (Q : VK) (E : XK) : FR → Prop
  | .ok e g' => ∀ v H' Hf', Aft cn ad g g' H Hf H' Hf' → REV cn ad H Hf' H' g' e v → Q v H'
  | .ex x g' => ∀ cls dd H' Hf', Aft cn ad g g' H Hf H' Hf' → RX cn ad Hf' x cls dd → E cls dd H'
  | .bad => False
theorem ends_ok {cn : Cn} {ad : Ad} {g : G} {H Hf : Hp} {Q : VK} {E : XK} {fl : Fl} (h : EndW cn ad g H Hf Q E fl.fr) : wpF { toCn := cn, hid := hidOf cn H Hf g ad, Hf0 := Hf, ad := ad, gs := g.sh } (fun cls d _ H' => E cls d H') { nx := fun _ H' => Q .non H', rt := Q } Hf fl := by
  have aft : ∀ {σ' : L2.St} {H' Hf' : Hp} {l : LSt}, REnv { toCn := cn, hid := hidOf cn H Hf g ad, Hf0 := Hf, ad := ad, gs := g.sh } Hf' σ' H' l → Aft cn ad g l.g H Hf H' Hf' := fun {σ' H' Hf' l} R => ⟨R.base, R.sub, fun a o h1 h2 h3 => ⟨(R.frame a o (hidOf_of h1 h2 h3)).1, (R.frame a o (hidOf_of h1 h2 h3)).2.1⟩, R.dice, R.hgs⟩
  cases fl with
  | nx l => exact fun σ' H' Hf' R _ => h .non H' Hf' (aft R) rfl
  | rt ev l =>
    refine fun v σ' H' Hf' R _ rv => h v H' Hf' (aft R) ?_
    cases ev with
    | v d => exact rv
    | o co =>
      obtain ⟨a, o, e1, ha, rc, n, n0, nd⟩ := rv
      refine ⟨a, o, e1, ha, rc, n, ?_, nd⟩
      cases e2 : H a with
      | none => rfl
      | some u =>
        exfalso
        by_cases hf : Hf a = none
        · have hd : ¬ isD cn g ad a := fun z => nd ((isD_iff R.hgs).mpr z)
          have := hidOf_of e2 hf hd
          have n0' : hidOf cn H Hf g ad a = none := n0
          rw [n0'] at this
          cases this
        · cases e3 : Hf a with
          | none => exact hf e3
          | some w =>
            have := R.base _ _ e3
            rw [n] at this
            cases this
  | ex x l => exact fun cls dd σ' H' Hf' R _ rx => h cls dd H' Hf' (aft R) rx
  | bk l => exact h.elim
  | ct l => exact h.elim
  | bad => exact h.elim
/-- a def of the text (with defaults), by its body -/
theorem fnD_ok {cn : Cn} {x qual : Str} {params : Arguments} {body : List Stmt} {scope : Scope} {dvs : List V} {kws : List (Str × V)} {f : Addr} {fd : FuncData} {N ps : List Str} {k : Nat} {fb : LSt → Fl} (F : FunD K x qual params body scope dvs kws f fd) (S : FnScope N ps scope)
    (hbody : ∀ (cdv : Value) (A : Around) (outer : List Env) (s : Shared) (H : Hp) (E : XK) (c : Ac), c.toCn = cn → Room k (A.deeper (envOfC qual scope s.heap.objs.size f cdv)) →
      DSs (cxOf (L2.CX P w) P w K mg base N qual scope f cdv A outer s H E) c (fun cls d _ H' => E cls d H') body fb) : FnOk P w K mg base (L2.CX P w) (k + 1) f fd ps (fun vs H Q E => vs.length = ps.length ∧ spF cn (mOf N.length ps.length fb) vs H Q E) := by
  refine funD_ok F S (fun vs H Q E h => h.1) (fun cdv A outer s H vs Q E hr h => ?_)
  obtain ⟨hl, Hf, ad, ds, g, sm, dc, r, h⟩ := h
  refine ⟨_, (hbody cdv A outer s H E { toCn := cn, hid := hidOf cn H Hf g ad, Hf0 := Hf, ad := ad, gs := g.sh } rfl hr).pss, Hf, _, env_start (N := N) sm dc r, ?_⟩
  have hd : ds.length = ps.length := by rw [r.length, hl]
  refine ends_ok ?_
  have h' : EndW cn ad g H Hf Q E (mOf N.length ps.length fb ds g) := by
    cases e : mOf N.length ps.length fb ds g with
    | ok ev g' => rw [e] at h; exact h
    | ex x g' => rw [e] at h; exact h
    | bad => rw [e] at h; exact h
  unfold mOf at h'
  rw [if_pos hd] at h'
  rw [hd]
  exact h'
theorem init_ok {cn : Cn} {x qual : Str} {params : Arguments} {body : List Stmt} {scope : Scope} {dvs : List V} {kws : List (Str × V)} {f : Addr} {fd : FuncData} {N ps : List Str} {k n : Nat} {fb : LSt → Fl} (F : FunD K x qual params body scope dvs kws f fd) (S : FnScope N ps scope)
    (hbody : ∀ (cdv : Value) (A : Around) (outer : List Env) (s : Shared) (H : Hp) (E : XK) (c : Ac), c.toCn = cn → Room k (A.deeper (envOfC qual scope s.heap.objs.size f cdv)) →
      DSs (cxOf (L2.CX P w) P w K mg base N qual scope f cdv A outer s H E) c (fun cls d _ H' => E cls d H') body fb) : FnOk P w K mg base (L2.CX P w) (k + 1) f fd ps (fun vs H Q E => vs.length = ps.length ∧ spI cn n (mOfI N.length ps.length fb) vs H Q E) := by
  refine funD_ok F S (fun vs H Q E h => h.1) (fun cdv A outer s H vs Q E hr h => ?_)
  obtain ⟨hl, Hf, ad, ds, g, vs', rfl, hob, sm, dc, r, h⟩ := h
  refine ⟨_, (hbody cdv A outer s H E { toCn := cn, hid := hidOf cn H Hf g ad, Hf0 := Hf, ad := ad, gs := g.sh } rfl hr).pss, Hf, _, env_startI (N := N) sm dc r, ?_⟩
  have hd : ds.length + 1 = ps.length := by
    rw [r.length, ← hl]
    rfl
  refine ends_ok ?_
  have h' : EndW cn ad g H Hf Q E (mOfI N.length ps.length fb ds g) := by
    cases e : mOfI N.length ps.length fb ds g with
    | ok ev g' => rw [e] at h; exact h
    | ex x g' => rw [e] at h; exact h
    | bad => rw [e] at h; exact h
  unfold mOfI at h'
  rw [if_pos hd] at h'
  rw [hd]
  exact h'
/-- defaults of flat data -/
def FlatD (cn : Cn) (dd : List D) (dvs : List V) : Prop := ∀ ad Hf, RVals cn ad Hf dd dvs
/-- a plain function that is a def's, wherever it is asked at all -/
structure Is (m m' : Fm) : Prop where
  eq : ∀ ds g, m' ds g ≠ .bad → m ds g = m' ds g
theorem spF_is {cn : Cn} {m m' : Fm} (i : Is m m') {vs : List V} {H : Hp} {Q : VK} {E : XK} (h : spF cn m' vs H Q E) : spF cn m vs H Q E := by
  obtain ⟨Hf, ad, ds, g, sm, dc, r, q⟩ := h
  refine ⟨Hf, ad, ds, g, sm, dc, r, ?_⟩
  rw [i.eq ds g (fun z => by rw [z] at q; exact q)]
  exact q
/-- from a def's promise to its calls with so many arguments written, dd filled up -/
theorem fnr_of {cn : Cn} {f : Addr} {fd : FuncData} {ps : List Str} {k n p : Nat} {fb : LSt → Fl} {m : Fm} {dd : List D} {dvs : List V} {ds : List Value} (F : FnOk P w K mg base (L2.CX P w) k f fd ps (fun vs H Q E => vs.length = ps.length ∧ spF cn (mOf n p fb) vs H Q E)) (hp : ps.length = p)
    (hb : L2.Binds K fd ps ds) (hd : Vals dvs ds) (fl : FlatD cn dd dvs) (i : ∀ xs g, m xs g ≠ .bad → mOf n p fb (xs ++ dd) g = m xs g) : FnR P w K mg base (L2.CX P w) k f (spF cn m) := by
  refine (F.raw hb hd).imp fun vs H Q E h => ?_
  obtain ⟨Hf, ad, xs, g, sm, dc, r, q⟩ := h
  have nb : m xs g ≠ .bad := fun z => by
    rw [z] at q
    exact q
  have e := i xs g nb
  have r2 : RVals cn ad Hf (xs ++ dd) (vs ++ dvs) := r.append (fl ad Hf)
  refine ⟨?_, Hf, ad, xs ++ dd, g, sm, dc, r2, by rw [e]; exact q⟩
  rw [← r2.length, hp]
  unfold mOf at e
  split at e
  · assumption
  · exact absurd e.symm nb
theorem fnr_ofI {cn : Cn} {f : Addr} {fd : FuncData} {ps : List Str} {k n p c : Nat} {fb : LSt → Fl} {m : Fm} {dd : List D} {dvs : List V} {ds : List Value} (F : FnOk P w K mg base (L2.CX P w) k f fd ps (fun vs H Q E => vs.length = ps.length ∧ spI cn c (mOfI n p fb) vs H Q E)) (hp : ps.length = p)
    (hb : L2.Binds K fd ps ds) (hd : Vals dvs ds) (fl : FlatD cn dd dvs) (i : ∀ xs g, m xs g ≠ .bad → mOfI n p fb (xs ++ dd) g = m xs g) : FnR P w K mg base (L2.CX P w) k f (spI cn c m) := by
  refine (F.raw hb hd).imp fun vs H Q E h => ?_
  obtain ⟨Hf, ad, xs, g, vs', rfl, hob, sm, dc, r, q⟩ := h
  have nb : m xs g ≠ .bad := fun z => by
    rw [z] at q
    exact q
  have e := i xs g nb
  have r2 : RVals cn ad Hf (xs ++ dd) (vs' ++ dvs) := r.append (fl ad Hf)
  refine ⟨?_, Hf, ad, xs ++ dd, g, vs' ++ dvs, rfl, hob, sm, dc, r2, by rw [e]; exact q⟩
  show (V.ref ad.oa :: (vs' ++ dvs)).length = ps.length
  rw [List.length_cons, ← r2.length, hp]
  unfold mOfI at e
  split at e
  · assumption
  · exact absurd e.symm nb
end
end Dx

/-! Dx.Blt: what is not covered; chains; built-in functions; globals; texts with fields. -/
namespace Dx
open PySem PySem.Spec PyProof.Rows L2

/-! ### not covered: nothing is told of it -/
section
variable {X : Cx} {c : Ac} {W : WX}
theorem de_bad {e : Expr} : DE X c W e fun _ => .bad := ⟨⟨fun pins s σ H Q I ⟨_, _, _, h⟩ => h.elim⟩⟩
theorem dt_bad {e : Expr} : DT X c W e fun _ => .bad := ⟨⟨fun pins s σ H Q I ⟨_, _, _, h⟩ => h.elim⟩⟩
theorem do_bad {e : Expr} : DO X c W e fun _ => .bad := ⟨⟨fun pins s σ H Q I ⟨_, _, _, h⟩ => h.elim⟩⟩
theorem ds_bad {e : Stmt} : DS X c W e fun _ => .bad := ⟨⟨fun pins s σ H D I ⟨_, _, _, h⟩ => h.elim⟩⟩
theorem dss_bad {e : List Stmt} : DSs X c W e fun _ => .bad := ⟨⟨fun pins s σ H D I ⟨_, _, _, h⟩ => h.elim⟩⟩
end

/-! ### chains -/
def sChain (g g' : D → D → Option D) (a b k : LSt → Res D) : LSt → Res D := fun l => (a l).bind fun x l => (b l).bind fun y l => (opt (g x y) l).bind fun z l => match z with
  | .bl true => (k l).bind fun w l => opt (g' y w) l
  | .bl false => .ok (.bl false) l
  | _ => .bad
section
variable {X : Cx} {c : Ac} {W : WX} {a b k : Expr} {pos : Pos} {fa fb fk : LSt → Res D} {op op' : CmpOp} {r r' : R2} {g g' : D → D → Option D}
theorem chain_run (ok : BinOk c r g) (ok' : BinOk c r' g') {σ : L2.St} {H : Hp} {Q : VK} (h : tD c W (sChain g g' fa fb fk) σ H Q) : tChain r r' (tD c W fa) (tD c W fb) (tD c W fk) σ H Q := by
  obtain ⟨Hf, l, R, h⟩ := h
  refine run_bind PD.mo R h fun d1 l1 x H1 Hf1 R1 s1 r1 h1 => ?_
  refine run_bind PD.mo R1 h1 fun d2 l2 y H2 Hf2 R2 s2 r2 h2 => ?_
  have h2 : wpR ((opt (g d1 d2) l2).bind fun z l => match z with
    | .bl true => (fk l).bind fun w l => opt (g' d2 w) l
    | .bl false => .ok (.bl false) l
    | _ => .bad) (PD c σ Q Hf2) (PX c W σ Hf2) := h2
  cases e : g d1 d2 with
  | none =>
    rw [e] at h2
    exact h2.elim
  | some d =>
    rw [e] at h2
    refine ok Hf2 H2 σ l2 d1 d2 d x y _ R2 (r1.mono s2) r2 e fun v H3 Hf3 R3 s3 r3 => ?_
    cases d with
    | bl z =>
      cases z with
      | false => exact ⟨false, r3, h2 _ H3 Hf3 R3 s3 rfl⟩
      | true =>
        refine ⟨true, r3, ?_⟩
        rw [if_pos rfl]
        have h3 : wpR ((fk l2).bind fun w l => opt (g' d2 w) l) (PD c σ Q Hf3) (PX c W σ Hf3) := wpR.mono PD.mo s3 h2
        refine run_bind PD.mo R3 h3 fun d4 l4 w H4 Hf4 R4 s4 r4 h4 => ?_
        cases e2 : g' d2 d4 with
        | none =>
          rw [e2] at h4
          exact h4.elim
        | some d' =>
          rw [e2] at h4
          exact ok' Hf4 H4 σ l4 d2 d4 d' y w Q R4 ((r2.mono s3).mono s4) r4 e2 h4
    | _ => exact h2.elim
theorem de_chain (ho : OpR X (compareOp op) r) (ok : BinOk c r g) (ho' : OpR X (compareOp op') r') (ok' : BinOk c r' g') (ha : DE X c W a fa) (hb : DE X c W b fb) (hk : DE X c W k fk)
    (hm : lastMarks [op, op'] [b, k] = false := by with_unfolding_all rfl) : DE X c W (.Compare a [op, op'] [b, k] pos) (sChain g g' fa fb fk) :=
  ⟨(pe_chain ho ho' ha.pe hb.pe hk.pe hm).imp' fun _ _ _ h => chain_run ok ok' h⟩
theorem dt_chain (ho : OpR X (compareOp op) r) (ok : BinOk c r g) (ho' : OpR X (compareOp op') r') (ok' : BinOk c r' g') (ha : DE X c W a fa) (hb : DE X c W b fb) (hk : DE X c W k fk)
    (hm : lastMarks [op, op'] [b, k] = false := by with_unfolding_all rfl) : DT X c W (.Compare a [op, op'] [b, k] pos) (sTst (sChain g g' fa fb fk)) :=
  ⟨(pt_chain ho ho' ha.pe hb.pe hk.pe hm).imp' fun _ _ _ h => by
    obtain ⟨Hf, l, R, h⟩ := h
    refine chain_run ok ok' ⟨Hf, l, R, ?_⟩
    have h' : wpR ((sChain g g' fa fb fk l).bind fun d l => opt (blD d) l) (PB c _ _ Hf) (PX c W _ Hf) := h
    cases e : sChain g g' fa fb fk l with
    | bad =>
      rw [e] at h'
      exact h'
    | ex x l1 =>
      rw [e] at h'
      exact h'
    | ok d l1 =>
      rw [e] at h'
      cases d with
      | bl k => exact fun v H' Hf' R' s' r' => ⟨k, r', h' H' Hf' R' s'⟩
      | _ => exact h'.elim⟩
/-! ### and, or as values -/
def sAndV (a b : LSt → Res D) : LSt → Res D := fun l => (a l).bind fun x l => match x with
  | .bl true => b l
  | .bl false => .ok (.bl false) l
  | _ => .bad
def sOrV (a b : LSt → Res D) : LSt → Res D := fun l => (a l).bind fun x l => match x with
  | .bl false => b l
  | .bl true => .ok (.bl true) l
  | _ => .bad
def notD : D → Option D
  | .bl b => some (.bl (!b))
  | _ => none
variable {rest : List Expr}
theorem de_one {op : BoolOp} (ha : DE X c W a fa) : DE X c W (.BoolOp op [a] pos) fa := ⟨pe_one ha.pe⟩
theorem de_and (ha : DE X c W a fa) (hb : DE X c W (.BoolOp .And (b :: rest) pos) fb) : DE X c W (.BoolOp .And (a :: b :: rest) pos) (sAndV fa fb) :=
  ⟨(pe_and ha.pe hb.pe).imp' fun _ _ _ ⟨Hf, l, R, h⟩ => run_bind PD.mo R h fun d l1 v H1 Hf1 R1 s1 r1 h1 => by
    cases d with
    | bl z =>
      cases z with
      | true => exact ⟨true, r1, by rw [if_pos rfl]; exact ⟨Hf1, l1, R1, h1⟩⟩
      | false => exact ⟨false, r1, by rw [if_neg (by decide)]; exact h1 _ H1 Hf1 R1 (Same.refl _) rfl⟩
    | _ => exact h1.elim⟩
theorem de_or (ha : DE X c W a fa) (hb : DE X c W (.BoolOp .Or (b :: rest) pos) fb) : DE X c W (.BoolOp .Or (a :: b :: rest) pos) (sOrV fa fb) :=
  ⟨(pe_or ha.pe hb.pe).imp' fun _ _ _ ⟨Hf, l, R, h⟩ => run_bind PD.mo R h fun d l1 v H1 Hf1 R1 s1 r1 h1 => by
    cases d with
    | bl z =>
      cases z with
      | true => exact ⟨true, r1, by rw [if_pos rfl]; exact h1 _ H1 Hf1 R1 (Same.refl _) rfl⟩
      | false => exact ⟨false, r1, by rw [if_neg (by decide)]; exact ⟨Hf1, l1, R1, h1⟩⟩
    | _ => exact h1.elim⟩
theorem de_not (ha : DE X c W a fa) : DE X c W (.UnaryOp .Not a pos) (sUn notD fa) :=
  ⟨(pe_not ha.pe).imp' fun _ _ _ ⟨Hf, l, R, h⟩ => run_bind PD.mo R h fun d l1 v H1 Hf1 R1 s1 r1 h1 => by
    cases d with
    | bl z => exact ⟨z, r1, h1 _ H1 Hf1 R1 (Same.refl _) rfl⟩
    | _ => exact h1.elim⟩
end

/-! ### built-in functions -/
section
variable {X : Cx} {c : Ac} {W : WX} {e : Expr} {es : List Expr} {fs : LSt → Res (List D)} {x : Str} {p pos : Pos} {id T : String} {r : List V → Hp → VK → Prop} {g : List D → Option D}
theorem de_blt (hc : CallR X (.builtin id) r) (ok : BltOk c r g) (hg : Gl X x) (hm : X.mg x = none) (hb : bootBuiltins x = some (.builtin id)) (ha : DA X c W (e :: es) fs) (hn : x ≠ "__name__" := by decide) (hdb : (x == ("__debug__" : Str)) = false := by decide)
    (he : starEach (e :: es) X.env = (false, eval e X.env) :: starEach es X.env := by rfl) (hpl : (backTo pos (starEach es X.env)).any (·.1) = false := by rfl) : DE X c W (.Call (.Name x p) (e :: es) [] pos) (sBlt g fs) :=
  ⟨(pe_callB hc hg hm hb ha.pa hn hdb he hpl).imp' fun _ _ _ h => blt_run ok h⟩
theorem de_bltT (hc : CallR X (.type T) r) (ok : BltOk c r g) (hg : Gl X x) (hm : X.mg x = none) (hb : bootBuiltins x = some (.type T)) (ha : DA X c W (e :: es) fs) (hn : x ≠ "__name__" := by decide) (hdb : (x == ("__debug__" : Str)) = false := by decide)
    (he : starEach (e :: es) X.env = (false, eval e X.env) :: starEach es X.env := by rfl) (hpl : (backTo pos (starEach es X.env)).any (·.1) = false := by rfl) : DE X c W (.Call (.Name x p) (e :: es) [] pos) (sBlt g fs) :=
  ⟨(pe_callTy hc hg hm hb ha.pa hn hdb he hpl).imp' fun _ _ _ h => blt_run ok h⟩
def lenD : List D → Option D
  | [.str y] => if y.length ≤ szL then some (.int (y.length : Nat)) else none
  | [.tup ds] => some (.int (ds.length : Nat))
  | [.lst ds] => some (.int (ds.length : Nat))
  | [.scr ns] => some (.int (ns.length : Nat))
  | [.dK ks ds] => if ks.length = ds.length then some (.int (ks.length : Nat)) else none
  | _ => none
abbrev rLen2 (K : PySem.W.Frag) : List V → Hp → VK → Prop := fun xs H Q => (∃ x n, xs = [x] ∧ LenV K x H n ∧ Q (.int n) H) ∨ ∃ (a : Addr) (kvs : List (Key × V)), xs = [.ref a] ∧ Rd H a (.dK kvs) ∧ Q (.int kvs.length) H
theorem cr_lenD : CallR X (.builtin "len") (fun xs H Q => ∃ (a : Addr) (kvs : List (Key × V)), xs = [.ref a] ∧ Rd H a (.dK kvs) ∧ Q (.int kvs.length) H) := by
  intro pins s σ H xs us Q I r h
  obtain ⟨a, kvs, rfl, hd, q⟩ := h
  obtain ⟨u, rfl, ru⟩ := vals1 r
  cases (show u = Value.ref a from ru)
  exact d_len I hd fun t s' I' => ⟨.int kvs.length, H, I', ⟨t, rfl⟩, q⟩
theorem cr_len2 : CallR X (.builtin "len") (rLen2 X.K) := call_len.or cr_lenD
theorem ok_len (hK : X.K = c.K) : BltOk c (rLen2 X.K) lenD := by
  intro Hf H σ l ds d vs Q R r e q
  unfold lenD at e
  by_cases hd : ∃ ks es, ds = [.dK ks es]
  · obtain ⟨ks, es, rfl⟩ := hd
    have e : (if ks.length = es.length then some (D.int (ks.length : Nat)) else none) = some d := e
    split at e
    · rename_i hz
      cases e
      obtain ⟨v, rfl, a, od, us, rfl, h, hl, t⟩ := rvals1 r
      exact .inr ⟨a, _, rfl, .inr ⟨od, R.sub _ _ h⟩, by rw [List.length_zip, ← hl, Nat.min_self]; exact q.flat R rfl⟩
    · cases e
  refine .inl ?_
  split at e
  · rename_i y
    split at e
    · rename_i hz
      cases e
      obtain ⟨v, rfl, r1⟩ := rvals1 r
      cases r1
      exact ⟨_, _, rfl, ⟨by rw [← szL_eq]; exact hz, rfl⟩, q.flat R rfl⟩
    · cases e
  · cases e
    obtain ⟨v, rfl, a, vs, rfl, h, t⟩ := rvals1 r
    exact ⟨_, _, rfl, .inr ⟨vs, by rw [hK]; exact sameT R.sub h, rfl⟩, q.flat R (by rw [t.length]; rfl)⟩
  · cases e
    obtain ⟨v, rfl, a, vs, rfl, h, t⟩ := rvals1 r
    exact ⟨_, _, rfl, .inl ⟨vs, SqL.of (R.sub _ _ h), rfl⟩, q.flat R (by rw [t.length]; rfl)⟩
  · cases e
    rename_i ns
    obtain ⟨v, rfl, a, rfl, h⟩ := rvals1 r
    exact ⟨_, _, rfl, .inl ⟨ns.map V.int, by rw [hK]; exact R.sub.seq h, rfl⟩, q.flat R (by rw [List.length_map]; rfl)⟩
  · exact absurd ⟨_, _, rfl⟩ hd
  · cases e
def absD : List D → Option D
  | [.int i] => some (.int (if i < 0 then -i else i))
  | _ => none
theorem ok_abs : BltOk c (fun xs H Q => ∃ i, xs = [V.int i] ∧ Q (V.int (if i < 0 then -i else i)) H) absD := by
  intro Hf H σ l ds d vs Q R r e q
  unfold absD at e
  split at e
  · cases e
    obtain ⟨v, rfl, r1⟩ := rvals1 r
    cases r1
    exact ⟨_, rfl, q.flat R rfl⟩
  · cases e
def maxD : List D → Option D
  | [.int i, .int j] => some (.int (if j > i then j else i))
  | _ => none
def minD : List D → Option D
  | [.int i, .int j] => some (.int (if j < i then j else i))
  | _ => none
theorem ok_max : BltOk c (fun xs H Q => ∃ i j, xs = [V.int i, V.int j] ∧ Q (V.int (if j > i then j else i)) H) maxD := by
  intro Hf H σ l ds d vs Q R r e q
  unfold maxD at e
  split at e
  · cases e
    obtain ⟨v, w, rfl, r1, r2⟩ := rvals2 r
    cases r1
    cases r2
    exact ⟨_, _, rfl, q.flat R rfl⟩
  · cases e
theorem ok_min : BltOk c (fun xs H Q => ∃ i j, xs = [V.int i, V.int j] ∧ Q (V.int (if j < i then j else i)) H) minD := by
  intro Hf H σ l ds d vs Q R r e q
  unfold minD at e
  split at e
  · cases e
    obtain ⟨v, w, rfl, r1, r2⟩ := rvals2 r
    cases r1
    cases r2
    exact ⟨_, _, rfl, q.flat R rfl⟩
  · cases e
def intD : List D → Option D
  | [.int i] => some (.int i)
  | [.bl b] => some (.int (if b = true then 1 else 0))
  | _ => none
theorem ok_int : BltOk c (fun xs H Q => (∃ i, xs = [V.int i] ∧ Q (V.int i) H) ∨ ∃ k, xs = [V.bl k] ∧ Q (V.int (if k = true then 1 else 0)) H) intD := by
  intro Hf H σ l ds d vs Q R r e q
  unfold intD at e
  split at e
  · cases e
    obtain ⟨v, rfl, r1⟩ := rvals1 r
    cases r1
    exact .inl ⟨_, rfl, q.flat R rfl⟩
  · cases e
    obtain ⟨v, rfl, r1⟩ := rvals1 r
    cases r1
    exact .inr ⟨_, rfl, q.flat R rfl⟩
  · cases e
def tupD : List D → Option D
  | [.lst ds] => some (.tup ds)
  | [.tup ds] => some (.tup ds)
  | _ => none
theorem ok_tup (hK : X.K = c.K) : BltOk c (fun xs H Q => ∃ p ys, xs = [V.ref p] ∧ ((SqL X.K H p ys ∧ ∀ l, H l = none → Q (V.ref l) (upd H l (.tup ys))) ∨ (SqT X.K H p ys ∧ Q (V.ref p) H))) tupD := by
  intro Hf H σ l ds d vs Q R r e q
  unfold tupD at e
  split at e
  · cases e
    obtain ⟨v, rfl, a, vs, rfl, h, t⟩ := rvals1 r
    exact ⟨a, vs, rfl, .inl ⟨SqL.of (R.sub _ _ h), fun p n => q.new R n (RVal.tupNew (R.free n) t)⟩⟩
  · cases e
    obtain ⟨v, rfl, a, vs, rfl, h, t⟩ := rvals1 r
    exact ⟨a, vs, rfl, .inr ⟨by rw [hK]; exact sameT R.sub h, q.flat R ⟨a, vs, rfl, h, t⟩⟩⟩
  · cases e
def blsD : List D → Option (List Bool)
  | [] => some []
  | .bl b :: r => (blsD r).map (b :: ·)
  | _ => none
theorem blsD_get {cn : Cn} {ad : Ad} {H : Hp} : ∀ {ds : List D} {bs : List Bool} {vs : List V}, blsD ds = some bs → RVals cn ad H ds vs → vs = bs.map V.bl
  | [], bs, vs, h, r => by
    cases h
    cases (show _ = [] from r)
    rfl
  | .bl b :: ds, bs, vs, h, r => by
    have h' : (blsD ds).map (b :: ·) = some bs := h
    rw [Option.map_eq_some_iff] at h'
    obtain ⟨bs', e1, e2⟩ := h'
    subst e2
    obtain ⟨v, r', e, q, t⟩ := r
    subst e
    cases q
    rw [blsD_get e1 t]
    rfl
def allD : List D → Option D
  | [.lst ds] => (blsD ds).map fun bs => .bl (bs.all fun b => b)
  | _ => none
def anyD : List D → Option D
  | [.lst ds] => (blsD ds).map fun bs => .bl (bs.any fun b => b)
  | _ => none
theorem ok_all (hK : X.K = c.K) : BltOk c (rAll X.K) allD := by
  intro Hf H σ l ds d vs Q R r e q
  unfold allD at e
  split at e
  · rw [Option.map_eq_some_iff] at e
    obtain ⟨bs, e1, e2⟩ := e
    subst e2
    obtain ⟨v, rfl, a, vs, rfl, h, t⟩ := rvals1 r
    have := blsD_get e1 t
    subst this
    exact ⟨a, bs, rfl, SqL.of (R.sub _ _ h), q.flat R rfl⟩
  · cases e
theorem ok_any (hK : X.K = c.K) : BltOk c (rAny X.K) anyD := by
  intro Hf H σ l ds d vs Q R r e q
  unfold anyD at e
  split at e
  · rw [Option.map_eq_some_iff] at e
    obtain ⟨bs, e1, e2⟩ := e
    subst e2
    obtain ⟨v, rfl, a, vs, rfl, h, t⟩ := rvals1 r
    have := blsD_get e1 t
    subst this
    exact ⟨a, bs, rfl, SqL.of (R.sub _ _ h), q.flat R rfl⟩
  · cases e
end

/-! ### names of the module -/
section
variable {X : Cx} {c : Ac} {W : WX} {x : Str} {pos : Pos}
theorem de_gint {i : Int} (hg : Gl X x) (hm : ∃ t, X.mg x = some (.int i t)) (hd : (x == ("__debug__" : Str)) = false := by decide) : DE X c W (.Name x pos) (sC (.int i)) := by
  obtain ⟨t, e⟩ := hm
  exact de_flat (pe_glob hg e (v := .int i) ⟨t, rfl⟩ hd) fun _ => rfl
theorem de_gstr {z : Str} (hg : Gl X x) (hm : ∃ t, X.mg x = some (.str z t)) (hd : (x == ("__debug__" : Str)) = false := by decide) : DE X c W (.Name x pos) (sC (.str z)) := by
  obtain ⟨t, e⟩ := hm
  exact de_flat (pe_glob hg e (v := .str z) ⟨t, rfl⟩ hd) fun _ => rfl
theorem de_bty {T : String} (hg : Gl X x) (hm : X.mg x = none) (hv : bootBuiltins x = some (.type T)) (hn : x ≠ "__name__" := by decide) (hd : (x == ("__debug__" : Str)) = false := by decide) : DE X c W (.Name x pos) (sC (.ty T)) :=
  de_flat (pe_bltn hg hm hv (v := .ty T) rfl hn hd) fun _ => rfl
end

/-! ### f-strings -/
def fmtD : D → Option D
  | .str y => if y.length ≤ szL then some (.str y) else none
  | .int i => if i.natAbs.log2 < 1920 then some (.str (toString i)) else none
  | _ => none
def sJoinP : List (LSt → Res D) → Str → LSt → Res D
  | [], acc, l => .ok (.str acc) l
  | f :: fs, acc, l => (f l).bind fun d l => match d with
    | .str y => if (acc ++ y).length ≤ szL then sJoinP fs (acc ++ y) l else .bad
    | _ => .bad
inductive DJ (X : Cx) (c : Ac) (W : WX) : List Expr → List (LSt → Res D) → Prop where
  | nil : DJ X c W [] []
  | cons {e : Expr} {f : LSt → Res D} {es : List Expr} {fs : List (LSt → Res D)} (h : DE X c W e f) (r : DJ X c W es fs) : DJ X c W (e :: es) (f :: fs)
section
variable {X : Cx} {c : Ac} {W : WX} {e : Expr} {pos : Pos} {fe : LSt → Res D}
theorem de_fmt (he : DE X c W e fe) : DE X c W (.FormattedValue e (-1) none pos) (sUn fmtD fe) :=
  ⟨(pe_fmt he.pe).imp' fun _ _ _ ⟨Hf, l, R, h⟩ => run_bind PD.mo R h fun d l1 v H1 Hf1 R1 s1 r1 h1 => by
    cases d with
    | str y =>
      have h1 : wpR (opt (if y.length ≤ szL then some (.str y) else none) l1) (PD c _ _ Hf1) (PX c W _ Hf1) := h1
      split at h1
      · rename_i hz
        exact .inl ⟨y, r1, by rw [← szL_eq]; exact hz, h1 _ H1 Hf1 R1 (Same.refl _) rfl⟩
      · exact h1.elim
    | int i =>
      have h1 : wpR (opt (if i.natAbs.log2 < 1920 then some (.str (toString i)) else none) l1) (PD c _ _ Hf1) (PX c W _ Hf1) := h1
      split at h1
      · rename_i hz
        exact .inr ⟨i, r1, hz, h1 _ H1 Hf1 R1 (Same.refl _) rfl⟩
      · exact h1.elim
    | _ => exact h1.elim⟩
theorem dj_pj {es : List Expr} {fs : List (LSt → Res D)} (h : DJ X c W es fs) : PJ X es (fs.map (tD c W)) := by
  induction h with
  | nil => exact .nil
  | cons h r ih => exact .cons h.pe ih
theorem join_run {Q : VK} {σ : L2.St} : ∀ (fs : List (LSt → Res D)) (acc : Str) (H Hf : Hp) (l : LSt), REnv c Hf σ H l → wpR (sJoinP fs acc l) (PD c σ Q Hf) (PX c W σ Hf) → tJs (fs.map (tD c W)) acc σ H fun out H1 => Q (.str out) H1
  | [], acc, H, Hf, l, R, h => h _ H Hf R (Same.refl _) rfl
  | f :: fs, acc, H, Hf, l, R, h => run_bind PD.mo R h fun d l1 v H1 Hf1 R1 s1 r1 h1 => by
    cases d with
    | str y =>
      have h1 : wpR (if (acc ++ y).length ≤ szL then sJoinP fs (acc ++ y) l1 else .bad) (PD c σ Q Hf1) (PX c W σ Hf1) := h1
      split at h1
      · rename_i hz
        exact ⟨y, r1, by rw [← szL_eq]; exact hz, join_run fs _ H1 Hf1 l1 R1 h1⟩
      · exact h1.elim
    | _ => exact h1.elim
theorem de_joined {v1 v2 : Expr} {rest : List Expr} {fs : List (LSt → Res D)} (h : DJ X c W (v1 :: v2 :: rest) fs) : DE X c W (.JoinedStr (v1 :: v2 :: rest) pos) (sJoinP fs Str.empty) :=
  ⟨(pe_joined (dj_pj h)).imp' fun _ _ _ ⟨Hf, l, R, h⟩ => join_run fs _ _ Hf l R h⟩
theorem de_joined1 (he : DE X c W e fe) : DE X c W (.JoinedStr [e] pos) fe := ⟨pe_joined1 he.pe⟩
end

/-! ### isinstance with a built-in class -/
def kindD : D → Option Nat
  | .int _ => some 0
  | .bl _ => some 1
  | .str _ => some 2
  | .tup _ => some 3
  | .lst _ => some 4
  | .dK _ _ => some 5
  | .dT _ _ => some 5
  | .non => some 6
  | _ => none
def isiB (n t : Nat) : Bool := n == t || (n == 1 && t == 0)
def isiD (t : Nat) (d : D) : Option D := (kindD d).map fun n => .bl (isiB n t)
theorem kit_tab : ∀ n ∈ [0, 1, 2, 3, 4, 5, 6], ∀ t ∈ [0, 1, 2, 3, 4, 5], PySem.W.kitOne [] (.type (kindN n)) (.type (kindN t)) = some (isiB n t) := by decide +kernel
theorem kit_any (K : PySem.W.Frag) (n t : String) : PySem.W.kitOne K (.type n) (.type t) = PySem.W.kitOne [] (.type n) (.type t) := rfl
theorem kind_lt {d : D} {n : Nat} (h : kindD d = some n) : n ∈ [0, 1, 2, 3, 4, 5, 6] := by
  cases d <;> simp only [kindD, reduceCtorEq, Option.some.injEq] at h <;> subst h <;> simp
/-- the type of a value, locked dicts of any keys too -/
def TyY (K : PySem.W.Frag) (H : Hp) (x : V) (t : Value) : Prop := TyX K H x t ∨ ∃ a od kvs, x = .ref a ∧ H a = some (.frz od (.dT kvs)) ∧ t = .type "dict"
def rIsi2 (K : PySem.W.Frag) : List V → Hp → VK → Prop := fun xs H Q => ∃ (x c : V) (t u : Value) (b : Bool), xs = [x, c] ∧ ClsV c u ∧ TyY K H x t ∧ PySem.W.kitOne K t u = some b ∧ Q (.bl b) H
theorem call_isi2 {X : Cx} : CallR X (.builtin "isinstance") (rIsi2 X.K) := by
  intro pins s σ H xs us Q I r ⟨x, c, t, w, b, hxs, k, ty, e, q⟩
  rcases ty with ty | ⟨a, od, kvs, hx, ha, ht⟩
  · exact call_isi pins s σ H xs us Q I r ⟨x, c, t, w, b, hxs, k, ty, e, q⟩
  · subst hxs hx ht
    obtain ⟨u1, u2, rfl, r1, r2⟩ := vals2 r
    cases k.eq r2
    obtain rfl : u1 = Value.ref a := r1
    have z : ObjOk X.prog X.w H s.heap a (.frz od (.dT kvs)) := I.hok a _ ha
    obtain ⟨_, _, _, vs, _, o, es, ep, h1, h2, _⟩ := z
    exact PySem.W.kia_one PySem.W.kitx_dict I.kIn ⟨o, h1, h2.1⟩ e (fun z => nomatch z) fun tk => ⟨.bl b, H, I.tok tk, rfl, q⟩
theorem kind_ty {cn : Cn} {ad : Ad} {Hf H : Hp} {d : D} {v : V} {n : Nat} (h : kindD d = some n) (s : Same Hf H) (r : RVal cn ad Hf d v) : TyY cn.K H v (.type (kindN n)) := by
  cases d <;> simp only [kindD, reduceCtorEq, Option.some.injEq] at h <;> subst h
  · cases r
    exact .inl (.base .non)
  · cases r
    exact .inl (.base (.bl _))
  · cases r
    exact .inl (.base (.int _))
  · cases r
    exact .inl (.base (.str _))
  · obtain ⟨a, vs, rfl, h, t⟩ := r
    rcases sameT s h with (h | ⟨o, h⟩) | ⟨o, its, m, h1, h2, _⟩
    · exact .inl (.base (.tup h))
    · exact .inl (.fTuple h)
    · exact .inl (.kTuple h1 h2)
  · obtain ⟨a, vs, rfl, h, t⟩ := r
    exact .inl (.base (.lst (s _ _ h)))
  · obtain ⟨a, od, vs, rfl, h, _⟩ := r
    exact .inl (.fDict (s _ _ h))
  · obtain ⟨a, od, vs, rfl, h, _⟩ := r
    exact .inr ⟨a, od, _, rfl, s _ _ h, rfl⟩
section
variable {X : Cx} {c : Ac} {W : WX} {e : Expr} {fe : LSt → Res D} {p pt pos : Pos} {x y : Str}
theorem de_isi (t : Nat) (ht : t ∈ [0, 1, 2, 3, 4, 5]) (hK : X.K = c.K) (hg : Gl X "isinstance") (hm : X.mg "isinstance" = none) (he : DE X c W e fe) (hgt : Gl X y) (hmt : X.mg y = none) (hv : bootBuiltins y = some (.type (kindN t)))
    (hn : y ≠ "__name__" := by decide) (hd : (y == ("__debug__" : Str)) = false := by decide) (hs : starEach (e :: [.Name y pt]) X.env = (false, eval e X.env) :: starEach [.Name y pt] X.env := by rfl) (hs2 : starEach [.Name y pt] X.env = [(false, eval (.Name y pt) X.env)] := by rfl)
    (hpl : (backTo pos (starEach [.Name y pt] X.env)).any (·.1) = false := by rfl) : DE X c W (.Call (.Name "isinstance" p) [e, .Name y pt] [] pos) (sUn (isiD t) fe) :=
  ⟨(pe_callB call_isi2 hg hm (by rfl) (pa_cons he.pe (pa_cons (pe_bltn hgt hmt hv (v := .ty (kindN t)) rfl hn hd) pa_nil hs2) hs) (by decide) (by decide) hs hpl).imp' fun _ _ _ ⟨Hf, l, R, h⟩ => run_bind PD.mo R h fun d l1 v H1 Hf1 R1 s1 r1 h1 => by
    have h1 : wpR (opt ((kindD d).map fun n => D.bl (isiB n t)) l1) (PD c _ _ Hf1) (PX c W _ Hf1) := h1
    cases ek : kindD d with
    | none =>
      rw [ek] at h1
      exact h1.elim
    | some n =>
      rw [ek] at h1
      refine ⟨v, .ty (kindN t), .type (kindN n), .type (kindN t), isiB n t, rfl, .ty _, ?_, ?_, h1 _ H1 Hf1 R1 (Same.refl _) rfl⟩
      · rw [hK]
        exact kind_ty ek R1.sub r1
      · rw [kit_any]
        exact kit_tab n (kind_lt ek) t ht⟩
end
end Dx

/-! Dx.Bm: methods of built-in types, by data; locked dicts too. -/
namespace Dx
open PySem PySem.Spec PyProof.Rows L2

/-- of the built-in type T; a dict may be locked -/
def tyD (K : PySem.W.Frag) (T : String) (x : V) (H : Hp) : Prop :=
  tyV K T x H ∨ (T = "dict" ∧ ∃ a o, x = .ref a ∧ ((∃ kvs, H a = some (.frz o (.dK kvs))) ∨ ∃ kvs, H a = some (.frz o (.dT kvs))))
theorem tyD_is {X : Cx} {pins : List (Addr × Obj)} {σ : L2.St} {H : Hp} {s : Shared} {T : String} {x : V} {v : Value} (I : Inv X pins σ H s) (r : RelV x v) (ty : tyD X.K T x H) :
    s.TypeIs v T ∧ ∀ a, v = .ref a → ∃ ob, s.heap.get? a = some ob ∧ ob.dict = none := by
  rcases ty with ty | ⟨hT, a, o, hx, ty⟩
  · exact tyV_is I r ty
  · subst hT hx
    obtain rfl : v = Value.ref a := r
    have key : ∃ ob, s.heap.get? a = some ob ∧ ob.ExactDict := by
      rcases ty with ⟨kvs, e⟩ | ⟨kvs, e⟩
      · have z : ObjOk X.prog X.w H s.heap a (.frz o (.dK kvs)) := I.hok a _ e
        obtain ⟨_, _, _, _, _, ob, _, _, h1, h2, _⟩ := z
        exact ⟨ob, h1, h2⟩
      · have z : ObjOk X.prog X.w H s.heap a (.frz o (.dT kvs)) := I.hok a _ e
        obtain ⟨_, _, _, _, _, ob, _, _, h1, h2, _⟩ := z
        exact ⟨ob, h1, h2⟩
    obtain ⟨ob, h1, h2⟩ := key
    refine ⟨⟨ob, h1, h2.1⟩, fun b e => ?_⟩
    cases e
    exact ⟨ob, h1, h2.2.1⟩
def tMm0 (K : PySem.W.Frag) (T : String) (r : V → List V → Hp → VK → Prop) (to : TE) : TE := fun σ H Q => to σ H fun x H1 => tyD K T x H1 ∧ r x [] H1 Q
def tMm (K : PySem.W.Frag) (T : String) (r : V → List V → Hp → VK → Prop) (to : TE) (t : TA) : TE := fun σ H Q => to σ H fun x H1 => tyD K T x H1 ∧ t σ H1 fun xs H2 => r x xs H2 Q
section
variable {X : Cx} {o e : Expr} {es : List Expr} {to : TE} {t : TA} {name : Str} {apos cpos : Pos} {T id : String} {r : V → List V → Hp → VK → Prop}
theorem pm_0 (pa : PlainAttrs T) (slot : PySem.Slot T name id) (hty : typeOf (.builtin id) = pure (.type "method_descriptor")) (hm : MtR X id r) (ho : PE X o to)
    (hb : attributeBase o name X.env (eval o X.env) = eval o X.env := by rfl) (hl : (apos.endLine == cpos.line) = true := by rfl) : PE X (.Call (.Attribute o name apos) [] [] cpos) (tMm0 X.K T r to) :=
  ⟨fun pins s σ H Q I h => wpAny_Call_method0_late hb hl (thn (ho.run pins s σ H _ I h) fun v s1 ⟨x, H1, I1, r1, ty, q⟩ =>
    ⟨T, id, pa, slot, hty, (tyD_is I1 r1 ty).1, (tyD_is I1 r1 ty).2, Calls.callWith_builtin rfl (PySem.evalArgs_none (hm pins s1 σ H1 x [] v [] Q I1 r1 .nil q))⟩)⟩
theorem pm_1 (pa : PlainAttrs T) (slot : PySem.Slot T name id) (hty : typeOf (.builtin id) = pure (.type "method_descriptor")) (hm : MtR X id r) (ho : PE X o to) (ha : PA X (e :: es) t)
    (hb : attributeBase o name X.env (eval o X.env) = eval o X.env := by rfl)
    (hf : ((backTo cpos (starEach (e :: es) X.env)).all (fun x => !x.1) && (backToKw cpos (keywordEach [] X.env)).all (fun x => x.1.isSome) && decide ((e :: es).length + ([] : List Keyword).length + (if ([] : List Keyword).isEmpty then 0 else 1) < 30)) = true := by rfl)
    (hl : (apos.endLine == cpos.line) = true := by rfl) (hs : starEach (e :: es) X.env = (false, eval e X.env) :: starEach es X.env := by rfl) (hp : (backTo cpos (starEach es X.env)).any (·.1) = false := by rfl) :
    PE X (.Call (.Attribute o name apos) (e :: es) [] cpos) (tMm X.K T r to t) :=
  ⟨fun pins s σ H Q I h => wpAny_Call_method_late hb hf hl rfl (thn (ho.run pins s σ H _ I h) fun v s1 ⟨x, H1, I1, r1, ty, q⟩ =>
    ⟨T, id, pa, slot, hty, (tyD_is I1 r1 ty).1, (tyD_is I1 r1 ty).2, by
      have hA := ha.run cpos pins s1 σ H1 _ I1 q
      rw [hs] at hA ⊢
      exact Calls.callWith_builtin (by show (false || (backTo cpos (starEach es X.env)).any (·.1)) = false; rw [hp]; rfl) (Calls.evalArgs_plain (thn hA fun us s2 ⟨vs, H2, I2, r2, q2⟩ => hm pins s2 σ H2 x vs v us Q I2 r1 r2 q2))⟩)⟩
end
/-- the receiver's type is asked ahead of the arguments -/
def sMtT (tb : D → Bool) (g : D → List D → Option D) (fo : LSt → Res D) (fs : LSt → Res (List D)) : LSt → Res D := fun l => (fo l).bind fun d l => if tb d = true then (fs l).bind fun ds l => opt (g d ds) l else .bad
/-- a method by values is one by data -/
structure MtOk' (c : Ac) (T : String) (r : V → List V → Hp → VK → Prop) (tb : D → Bool) (g : D → List D → Option D) : Prop where
  ty : ∀ (Hf H : Hp) (σ : L2.St) (l : LSt) (d : D) (x : V), REnv c Hf σ H l → RVal c.toCn c.ad Hf d x → tb d = true → tyD c.K T x H
  ok : ∀ (Hf H : Hp) (σ : L2.St) (l : LSt) (d d' : D) (ds : List D) (x : V) (xs : List V) (Q : VK), REnv c Hf σ H l → RVal c.toCn c.ad Hf d x → RVals c.toCn c.ad Hf ds xs → g d ds = some d' → PD c σ Q Hf d' l → r x xs H Q
section
variable {X : Cx} {c : Ac} {W : WX} {o e : Expr} {es : List Expr} {fo : LSt → Res D} {fs : LSt → Res (List D)} {name : Str} {apos cpos : Pos} {T id : String} {r : V → List V → Hp → VK → Prop} {tb : D → Bool} {g : D → List D → Option D}
theorem de_mt0 (hK : X.K = c.K) (pa : PlainAttrs T) (slot : PySem.Slot T name id) (hty : typeOf (.builtin id) = pure (.type "method_descriptor")) (hm : MtR X id r) (ok : MtOk' c T r tb g) (ho : DE X c W o fo)
    (hb : attributeBase o name X.env (eval o X.env) = eval o X.env := by rfl) (hl : (apos.endLine == cpos.line) = true := by rfl) : DE X c W (.Call (.Attribute o name apos) [] [] cpos) (sMtT tb g fo sNil) :=
  ⟨(pm_0 pa slot hty hm ho.pe hb hl).imp' fun σ H Q ⟨Hf, l, R, h⟩ => run_bind PD.mo R h fun d l1 v H1 Hf1 R1 s1 r1 h1 => by
    cases e1 : tb d with
    | false =>
      rw [e1] at h1
      exact h1.elim
    | true =>
      rw [e1] at h1
      refine ⟨by rw [hK]; exact ok.ty Hf1 H1 σ l1 d v R1 r1 e1, ?_⟩
      have h2 : wpR (opt (g d []) l1) (PD c σ Q Hf1) (PX c W σ Hf1) := h1
      cases e2 : g d [] with
      | none =>
        rw [e2] at h2
        exact h2.elim
      | some d' =>
        rw [e2] at h2
        exact ok.ok Hf1 H1 σ l1 d d' [] v [] Q R1 r1 .nil e2 h2⟩
theorem de_mt (hK : X.K = c.K) (pa : PlainAttrs T) (slot : PySem.Slot T name id) (hty : typeOf (.builtin id) = pure (.type "method_descriptor")) (hm : MtR X id r) (ok : MtOk' c T r tb g) (ho : DE X c W o fo) (ha : DA X c W (e :: es) fs)
    (hb : attributeBase o name X.env (eval o X.env) = eval o X.env := by rfl)
    (hf : ((backTo cpos (starEach (e :: es) X.env)).all (fun x => !x.1) && (backToKw cpos (keywordEach [] X.env)).all (fun x => x.1.isSome) && decide ((e :: es).length + ([] : List Keyword).length + (if ([] : List Keyword).isEmpty then 0 else 1) < 30)) = true := by rfl)
    (hl : (apos.endLine == cpos.line) = true := by rfl) (hs : starEach (e :: es) X.env = (false, eval e X.env) :: starEach es X.env := by rfl) (hp : (backTo cpos (starEach es X.env)).any (·.1) = false := by rfl) :
    DE X c W (.Call (.Attribute o name apos) (e :: es) [] cpos) (sMtT tb g fo fs) :=
  ⟨(pm_1 pa slot hty hm ho.pe ha.pa hb hf hl hs hp).imp' fun σ H Q ⟨Hf, l, R, h⟩ => run_bind PD.mo R h fun d l1 v H1 Hf1 R1 s1 r1 h1 => by
    cases e1 : tb d with
    | false =>
      rw [e1] at h1
      exact h1.elim
    | true =>
      rw [e1] at h1
      refine ⟨by rw [hK]; exact ok.ty Hf1 H1 σ l1 d v R1 r1 e1, ?_⟩
      have h2 : wpR ((fs l1).bind fun ds l => opt (g d ds) l) (PD c σ Q Hf1) (PX c W σ Hf1) := h1
      refine run_bindA PD.mo R1 h2 fun ds l2 vs H2 Hf2 R2 s2 r2 h3 => ?_
      cases e2 : g d ds with
      | none =>
        rw [e2] at h3
        exact h3.elim
      | some d' =>
        rw [e2] at h3
        exact ok.ok Hf2 H2 σ l2 d d' ds v vs Q R2 (r1.mono s2) r2 e2 h3⟩
end
end Dx

/-! Dx.Dct: dicts of the frame's own; values of a dict. -/
namespace Dx
open PySem PySem.Spec PyProof.Rows L2

def keyD : D → Option Key
  | .int i => some (.inl i)
  | .str x => some (.inr x)
  | _ => none
theorem keyD_v {cn : Cn} {ad : Ad} {H : Hp} {d : D} {v : V} {k : Key} (e : keyD d = some k) (r : RVal cn ad H d v) : v = kV k := by
  cases d <;> simp only [keyD, reduceCtorEq, Option.some.injEq] at e <;> subst e <;> exact r
def lookD {α : Type} (ks : List Key) (ds : List α) (j : Key) : Option α := match ks, ds with
  | k :: ks, d :: ds => if k = j then some d else lookD ks ds j
  | _, _ => none
def memK : List Key → Key → Bool
  | [], _ => false
  | k :: ks, j => decide (k = j) || memK ks j
def putKs (ks : List Key) (j : Key) : List Key := if memK ks j = true then ks else ks ++ [j]
def replD {α : Type} (ks : List Key) (ds : List α) (j : Key) (x : α) : List α := match ks, ds with
  | k :: ks, d :: ds => (if k = j then x else d) :: replD ks ds j x
  | _, _ => []
def putDs {α : Type} (ks : List Key) (ds : List α) (j : Key) (x : α) : List α := if memK ks j = true then replD ks ds j x else ds ++ [x]
theorem lookD_val : ∀ (ks : List Key) (vs : List V) (j : Key), valV (ks.zip vs) j = lookD ks vs j
  | [], _, _ => by simp [lookD, valV]
  | _ :: _, [], _ => by simp [lookD, valV]
  | k :: ks, v :: vs, j => by
    unfold lookD
    rw [List.zip_cons_cons]
    by_cases e : k = j
    · rw [if_pos e]
      exact valV_pos e
    · rw [if_neg e, valV_neg (by simpa using e)]
      exact lookD_val ks vs j
section
variable {cn : Cn} {ad : Ad} {H : Hp}
theorem lookD_rel : ∀ {ks : List Key} {ds : List D} {vs : List V} {j : Key}, RVals cn ad H ds vs → (match lookD ks ds j with
    | some d => ∃ v, lookD ks vs j = some v ∧ RVal cn ad H d v
    | none => lookD ks vs j = none)
  | [], _, _, _, _ => rfl
  | _ :: _, [], vs, _, r => by
    cases (show _ = [] from r)
    exact rfl
  | k :: ks, d :: ds, vs, j, ⟨v, us, e, r, t⟩ => by
    subst e
    unfold lookD
    by_cases e : k = j
    · rw [if_pos e, if_pos e]
      exact ⟨v, rfl, r⟩
    · rw [if_neg e, if_neg e]
      exact lookD_rel t
theorem replD_rel {d : D} {v : V} (hd : RVal cn ad H d v) : ∀ {ks : List Key} {ds : List D} {vs : List V} {j : Key}, RVals cn ad H ds vs → RVals cn ad H (replD ks ds j d) (replD ks vs j v)
  | [], _, _, _, _ => rfl
  | _ :: _, [], vs, _, r => by
    cases (show _ = [] from r)
    exact rfl
  | k :: ks, e :: ds, vs, j, ⟨w, us, eq, r, t⟩ => by
    subst eq
    unfold replD
    refine .cons ?_ (replD_rel hd t)
    by_cases z : k = j
    · rw [if_pos z, if_pos z]
      exact hd
    · rw [if_neg z, if_neg z]
      exact r
theorem putDs_rel {d : D} {v : V} (hd : RVal cn ad H d v) {ks : List Key} {ds : List D} {vs : List V} {j : Key} (r : RVals cn ad H ds vs) : RVals cn ad H (putDs ks ds j d) (putDs ks vs j v) := by
  unfold putDs
  split
  · exact replD_rel hd r
  · exact r.append (.cons hd .nil)
end
theorem replD_length {α : Type} : ∀ {ks : List Key} {vs : List α} {j : Key} {v : α}, ks.length = vs.length → (replD ks vs j v).length = ks.length
  | [], [], _, _, _ => rfl
  | [], _ :: _, _, _, h => by cases h
  | _ :: _, [], _, _, h => by cases h
  | k :: ks, w :: vs, j, v, h => by
    unfold replD
    rw [List.length_cons, List.length_cons, replD_length (by simpa using h)]
theorem put_length {α : Type} {ks : List Key} {vs : List α} {j : Key} {v : α} (h : ks.length = vs.length) : (putKs ks j).length = (putDs ks vs j v).length := by
  unfold putKs putDs
  split
  · exact (replD_length h).symm
  · simp [h]
theorem any_zip : ∀ (ks : List Key) (vs : List V) (j : Key), ks.length = vs.length → ((ks.zip vs).any fun kv => decide (kv.1 = j)) = memK ks j
  | [], [], _, _ => rfl
  | [], _ :: _, _, h => by cases h
  | _ :: _, [], _, h => by cases h
  | k :: ks, v :: vs, j, h => by
    rw [List.zip_cons_cons, List.any_cons, any_zip ks vs j (by simpa using h)]
    rfl
theorem repl_zip : ∀ (ks : List Key) (vs : List V) (j : Key) (v : V), ((ks.zip vs).map fun kv => if kv.1 = j then (kv.1, v) else kv) = ks.zip (replD ks vs j v)
  | [], vs, _, _ => by simp
  | _ :: _, [], _, _ => by simp [replD]
  | k :: ks, w :: vs, j, v => by
    unfold replD
    rw [List.zip_cons_cons, List.map_cons, List.zip_cons_cons, repl_zip ks vs j v]
    by_cases e : k = j
    · simp [e]
    · simp [e]
theorem putK_zip {ks : List Key} {vs : List V} {j : Key} {v : V} (h : ks.length = vs.length) : putK (ks.zip vs) j v = (putKs ks j).zip (putDs ks vs j v) := by
  unfold putK putKs putDs
  rw [any_zip ks vs j h]
  by_cases e : memK ks j = true
  · rw [if_pos e, if_pos e, if_pos e]
    exact repl_zip ks vs j v
  · rw [if_neg e, if_neg e, if_neg e, List.zip_append h]
    rfl

/-! ### d.get(k, x), d[k] = x, on a dict of the frame's own -/
def sDGet2 (i : Nat) (fk fz : LSt → Res D) : LSt → Res D := fun l => match l.sl[i]? with
  | some (.own (.dK _ _)) => (fk l).bind fun k l => (fz l).bind fun z l => match l.sl[i]? with
    | some (.own (.dK ks ds)) => opt ((keyD k).map fun j => (lookD ks ds j).getD z) l
    | _ => .bad
  | _ => .bad
def zDPut (i : Nat) (fk fe : LSt → Res D) : LSt → Fl := fun l => (fe l).toFl fun d l => (match l.sl[i]? with
  | some (.own _) => (fk l).toFl fun k l => (match l.sl[i]? with
    | some (.own (.dK ks ds)) => (match keyD k with
      | some j => if ks.length < szL then .nx (l.put i (.own (.dK (putKs ks j) (putDs ks ds j d)))) else .bad
      | none => .bad)
    | _ => .bad)
  | _ => .bad)
section
variable {X : Cx} {c : Ac} {W : WX} {x : Str} {np apos cpos pos pos' : Pos} {i : Nat} {ek ez e : Expr} {fk fz fe : LSt → Res D}
theorem de_dget2 (hu : X.A.units + 1 < cLine) (pv : PE X (.Name x np) (tVar i)) (hk : DE X c W ek fk) (hz : DE X c W ez fz) (m : M2 X (.Name x np) "get" apos ek ez cpos) :
    DE X c W (.Call (.Attribute (.Name x np) "get" apos) [ek, ez] [] cpos) (sDGet2 i fk fz) :=
  ⟨(pe_dget2 hu pv hk.pe hz.pe m).imp' fun σ H Q ⟨Hf, l, R, h⟩ => by
    unfold sDGet2 at h
    cases e1 : l.sl[i]? with
    | none =>
      rw [e1] at h
      exact h.elim
    | some s =>
      rw [e1] at h
      cases s with
      | own co =>
        cases co with
        | dK ks0 ds0 =>
          obtain ⟨a, o, ea, ha, rc, _⟩ := R.own e1
          obtain ⟨vs0, rfl, _, _⟩ := rc
          refine ⟨.ref a, ea, a, rfl, .inl ⟨_, .inl ha⟩, run_bind PD.mo R h fun k l1 kv H1 Hf1 R1 s1 r1 h1 => run_bind PD.mo R1 h1 fun z l2 zv H2 Hf2 R2 s2 r2 h2 => ?_⟩
          cases e2 : l2.sl[i]? with
          | none =>
            rw [e2] at h2
            exact h2.elim
          | some s2' =>
            rw [e2] at h2
            cases s2' with
            | own co2 =>
              cases co2 with
              | dK ks ds =>
                have h2 : wpR (opt ((keyD k).map fun j => (lookD ks ds j).getD z) l2) (PD c σ Q Hf2) (PX c W σ Hf2) := h2
                cases e3 : keyD k with
                | none =>
                  rw [e3] at h2
                  exact h2.elim
                | some j =>
                  rw [e3] at h2
                  obtain ⟨a', o', ea', ha', rc', _⟩ := R2.own e2
                  rw [ea] at ea'
                  cases ea'
                  obtain ⟨vs, rfl, hl, rv⟩ := rc'
                  have kz : kv = kV j := keyD_v e3 r1
                  refine ⟨lookD ks vs j, .inl ⟨_, j, .inl ha', kz, (lookD_val ks vs j).symm⟩, ?_⟩
                  have q := lookD_rel (ks := ks) (j := j) rv
                  have h2 : PD c σ Q Hf2 ((lookD ks ds j).getD z) l2 := h2
                  cases e4 : lookD ks ds j with
                  | none =>
                    rw [e4] at q h2
                    rw [show lookD ks vs j = none from q]
                    exact h2 _ H2 Hf2 R2 (Same.refl _) r2
                  | some d =>
                    rw [e4] at q h2
                    obtain ⟨v, q1, q2⟩ := q
                    rw [q1]
                    exact h2 _ H2 Hf2 R2 (Same.refl _) q2
              | _ => exact h2.elim
            | _ => exact h2.elim
        | _ => exact h.elim
      | _ => exact h.elim⟩
theorem ds_dput (hu : X.A.units + 1 < cLine) (pv : PE X (.Name x np) (tVar i)) (hk : DE X c W ek fk) (he : DE X c W e fe) (hs : swapsWith e (some (.Subscript (.Name x np) ek pos')) pos.line X.env = pure false := by rfl) :
    DS X c W (.Assign [.Subscript (.Name x np) ek pos'] e pos) (zDPut i fk fe) :=
  ⟨(ps_dput hu pv hk.pe he.pe hs).imp' fun D σ H ⟨Hf, l, R, h⟩ => to_bind R h fun d l1 v H1 Hf1 R1 s1 r1 h1 => by
    cases e1 : l1.sl[i]? with
    | none =>
      rw [e1] at h1
      exact h1.elim
    | some s =>
      rw [e1] at h1
      cases s with
      | own co =>
        obtain ⟨a, o, ea, ha, rc, _⟩ := R1.own e1
        refine ⟨.ref a, ea, to_bind R1 h1 fun k l2 kv H2 Hf2 R2 s2 r2 h2 => ?_⟩
        cases e2 : l2.sl[i]? with
        | none =>
          rw [e2] at h2
          exact h2.elim
        | some s2' =>
          rw [e2] at h2
          cases s2' with
          | own co2 =>
            cases co2 with
            | dK ks ds =>
              have h2 : wpF c W D Hf2 (match keyD k with
                | some j => if ks.length < szL then .nx (l2.put i (.own (.dK (putKs ks j) (putDs ks ds j d)))) else .bad
                | none => .bad) := h2
              cases e3 : keyD k with
              | none =>
                rw [e3] at h2
                exact h2.elim
              | some j =>
                rw [e3] at h2
                have h2 : wpF c W D Hf2 (if ks.length < szL then .nx (l2.put i (.own (.dK (putKs ks j) (putDs ks ds j d)))) else .bad) := h2
                split at h2
                · rename_i hz
                  obtain ⟨a', o', ea', ha', rc', _⟩ := R2.own e2
                  rw [ea] at ea'
                  cases ea'
                  obtain ⟨vs, rfl, hl, rv⟩ := rc'
                  refine ⟨a, _, rfl, .inl ⟨_, j, ha', keyD_v e3 r2, by rw [← szL_eq, List.length_zip, ← hl, Nat.min_self]; exact hz, rfl⟩, ?_⟩
                  refine h2 σ _ Hf2 (R2.write e2 ea ⟨putDs ks vs j v, by rw [putK_zip hl], put_length hl, putDs_rel (r1.mono s2) rv⟩) (Same.refl _)
                · exact h2.elim
            | _ => exact h2.elim
          | _ => exact h2.elim
      | _ => exact h1.elim⟩
end

/-! ### a, b, c = {}, x, y -/
def zParD (i j k : Nat) (fa : LSt → Res (List D)) : LSt → Fl := fun l => match fa l with
  | .ok [x, y] l => .nx (((l.put i (.own (.dK [] []))).put j (.v x)).put k (.v y))
  | _ => .bad
section
variable {X : Cx} {c : Ac} {W : WX} {i j l : Nat} {x y z : Str} {a b : Expr} {px py pz pt pos pd : Pos} {kt k2 pt2} {fa : LSt → Res (List D)}
theorem ds_parD (hc : X.calm = true) (hN : X.N.Nodup) (hi : X.N[i]? = some x) (hj : X.N[j]? = some y) (hl : X.N[l]? = some z) (hij : i ≠ j) (hil : i ≠ l) (hjl : j ≠ l)
    (hx : X.env.scope.names.lookup x = some .local) (hy : X.env.scope.names.lookup y = some .local) (hz : X.env.scope.names.lookup z = some .local)
    (ha : ∀ c' : Ac, c'.toCn = c.toCn → DA X c' W0 [a, b] fa)
    (hw : swappedStores [.Tuple [.Name x px, .Name y py, .Name z pz] kt pt] (.Tuple [.Dict [] [] pd, a, b] k2 pt2) X.env = pure (some [x, y, z]))
    (hs : swapsWithSole [.Tuple [.Name x px, .Name y py, .Name z pz] kt pt] (.Tuple [.Dict [] [] pd, a, b] k2 pt2) pos.line X.env = pure false := by rfl)
    (hst : starEach (.Dict [] [] pd :: [a, b]) X.env = (false, eval (.Dict [] [] pd) X.env) :: starEach [a, b] X.env := by rfl) :
    DS X c W (.Assign [.Tuple [.Name x px, .Name y py, .Name z pz] kt pt] (.Tuple [.Dict [] [] pd, a, b] k2 pt2) pos) (zParD i j l fa) := by
  have pa : PA X [a, b] (fun σ H Q => ∃ c' : Ac, c'.toCn = c.toCn ∧ tA c' W0 fa σ H Q) := ⟨fun ps pins s σ H Q I ⟨c', h1, h2⟩ => (ha c' h1).pa.run ps pins s σ H Q I h2⟩
  refine ⟨(ps_par3 hc hN hi hj hl hij hil hjl hx hy hz (pa_cons pe_dnewK pa hst) hw hs).imp' fun D σ H ⟨Hf, ls, R, h⟩ => fun p hp => ?_⟩
  have R0 := R.hid (o := .dK []) hp
  have c0 : c.hid p = none := by
    cases e0 : c.hid p with
    | none => rfl
    | some u =>
      have := (R.frame p u e0).1
      rw [hp] at this
      cases this
  have fr : ∀ (j : Nat) (s : Slot), ls.sl[j]? = some s → isOwn s = true → σ[j]? ≠ some (some (.ref p)) := fun j s hj ho e => by
    cases s with
    | own co' =>
      obtain ⟨a', o', e', ha', _⟩ := R.own hj
      rw [e'] at e
      cases e
      rw [hp] at ha'
      cases ha'
    | _ => cases ho
  have R1 := R0.mind upd_same (R.free hp) (R.dice.new hp) fr
  refine ⟨c.more p (.dK []), rfl, Hf, ls, R1, ?_⟩
  have h : wpF c W D Hf (match fa ls with
    | .ok [x, y] l' => .nx (((l'.put i (.own (.dK [] []))).put j (.v x)).put l (.v y))
    | _ => .bad) := h
  cases e : fa ls with
  | bad =>
    rw [e] at h
    exact h.elim
  | ex q l1 =>
    rw [e] at h
    exact h.elim
  | ok ds l1 =>
    rw [e] at h
    intro vs H' Hf' R' s' r
    obtain ⟨R2, h1, nf, nd, fr2⟩ := R'.unmind c0
    match ds, r, h with
    | [d1, d2], r, h =>
      obtain ⟨v1, v2, rfl, q1, q2⟩ := rvals2 r
      exact ⟨.ref p, v1, v2, rfl, h _ H' Hf' (((R2.storeO (co := .dK [] []) h1 ⟨[], rfl, rfl, rfl⟩ nf c0 nd (fun j s hj ho => fr2 j s hj ho)).store q1).store q2) s'⟩
    | [], _, h => exact h.elim
    | [_], _, h => exact h.elim
    | _ :: _ :: _ :: _, _, h => exact h.elim
end

/-! ### list(d.values()) -/
theorem kv_vals {kvs : List (Key × V)} {vs : List (Key × Value)} (r : KV kvs vs) : Vals (kvs.map (·.2)) (vs.map (·.2)) := by
  unfold KV at r
  induction r with
  | nil => exact .nil
  | cons h t ih => exact .cons h.2 ih
def rVals : V → List V → Hp → VK → Prop := fun x xs H Q => ∃ (a : Addr) (kvs : List (Key × V)), x = .ref a ∧ xs = [] ∧ Rd H a (.dK kvs) ∧ ∀ p, H p = none → Q (.ref p) (upd H p (viewO "dict_values" p a))
section
variable {X : Cx}
theorem mt_vals : MtR X "dict.values" rVals := by
  intro pins s σ H x xs v us Q I rx rxs h
  obtain ⟨a, kvs, rfl, rfl, ha, q⟩ := h
  cases rx
  cases rxs
  obtain ⟨z, hd, vs, rk, dd⟩ := dk_rd I.hok ha
  have hf : H s.heap.objs.size = none := I.hok.fresh (Nat.le_refl _)
  exact call_meetsIn PySem.F.slot_dict_values dd.typeIs PySem.F.entry_dict_values (PySem.F.args_dict_values_1 _) (meets_dict_values (mixKind X.prog X.w) a hd) ⟨⟨vs, dd⟩,
    .ref s.heap.objs.size, upd H s.heap.objs.size (viewO "dict_values" s.heap.objs.size a), I.laid (t' := s.toks) (fun b u e => Heap.get?_push_of_some _ e) (Nat.le_refl _) (viewO_ok (Heap.get?_push_size _ rfl)), rfl, q _ hf⟩
def rListV : List V → Hp → VK → Prop := fun xs H Q => ∃ p a kvs, xs = [.ref p] ∧ H p = some (viewO "dict_values" p a) ∧ Rd H a (.dK kvs) ∧ ∀ q, H q = none → Q (.ref q) (upd H q (.lst (kvs.map (·.2))))
theorem call_list_view (hc : X.calm = true) : CallR X (.type "list") rListV := by
  intro pins s σ H xs us Q I r h
  obtain ⟨p, a, kvs, e, hp, hk, q⟩ := h
  subst e
  obtain ⟨u, eu, rx⟩ := vals1 r
  subst eu
  obtain rfl : u = Value.ref p := rx
  obtain ⟨z, lo, vs, rk, hd⟩ := dk_rd I.hok hk
  have hv := (show ObjOk X.prog X.w H s.heap p (viewO "dict_values" p a) from I.hok p _ hp).1
  obtain ⟨ep, hat⟩ := hd.dictAt
  have hl : kvs.length = vs.length := Paired.length rk
  refine PySem.W.kdl_call (PySem.W.kdl_values (knd := mixKind X.prog X.w) (r := p) (d := a) (kvs := vs) (ep := ep)) (I.ok.hd hc) ⟨⟨_, hv, rfl, rfl⟩, hat⟩ (by rw [← hl]; exact z) fun h' tk acc' c' hkeep hS hacc => ?_
  have el : acc'.toList = vs.map (·.2) := by
    have hn : acc'.toList.length = vs.length := by rw [Array.length_toList, hacc.1]
    apply List.ext_getElem?
    intro j
    rw [List.getElem?_map]
    cases hj : acc'.toList[j]? with
    | none =>
      have h1 := List.getElem?_eq_none_iff.mp hj
      rw [List.getElem?_eq_none (by omega)]
      rfl
    | some v =>
      obtain ⟨k, hk2⟩ := hacc.2 j v (by rw [← Array.getElem?_toList]; exact hj)
      rw [hk2]
      rfl
  refine ⟨.ref s.heap.objs.size, upd H s.heap.objs.size (.lst (kvs.map (·.2))), I.laid hkeep (Nat.le_refl _) (show ObjOk X.prog X.w _ _ _ (.lst (kvs.map (·.2))) from ⟨?_, acc'.toList, c', ?_, ?_⟩), rfl, q _ (I.hok.fresh (Nat.le_refl _))⟩
  · rw [List.length_map]
    exact z
  · rw [el]
    exact kv_vals rk
  · rw [Array.toArray_toList]
    exact hS
end
def valsD : D → Option D
  | .dK _ ds => some (.lst ds)
  | _ => none
section
variable {X : Cx} {c : Ac} {W : WX} {e : Expr} {fe : LSt → Res D} {p apos cpos pos : Pos}
theorem de_listVals (hc : X.calm = true) (hK : X.K = c.K) (hg : Gl X "list") (hm : X.mg "list" = none) (he : DE X c W e fe) (hb : attributeBase e "values" X.env (eval e X.env) = eval e X.env := by rfl) (hline : (apos.endLine == cpos.line) = true := by rfl)
    (hst : starEach (.Call (.Attribute e "values" apos) [] [] cpos :: []) X.env = (false, eval (.Call (.Attribute e "values" apos) [] [] cpos) X.env) :: starEach [] X.env := by rfl) :
    DE X c W (.Call (.Name "list" p) [.Call (.Attribute e "values" apos) [] [] cpos] [] pos) (sUn valsD fe) :=
  ⟨(pe_callTy (call_list_view hc) hg hm (by rfl) (pa_cons (pm_0 F.plainAttrs_dict F.slot_dict_values F.type_dict_values mt_vals he.pe hb hline) pa_nil hst) (by decide) (by decide) hst).imp' fun σ H Q ⟨Hf, l, R, h⟩ => run_bind PD.mo R h fun d l1 v H1 Hf1 R1 s1 r1 h1 => by
    cases d with
    | dK ks ds =>
      obtain ⟨a, od, vs, rfl, ha, hl, rv⟩ := r1
      have ha1 := R1.sub _ _ ha
      refine ⟨.inr ⟨rfl, a, od, rfl, .inl ⟨_, ha1⟩⟩, a, _, rfl, rfl, .inr ⟨od, ha1⟩, fun p hp => ?_⟩
      refine ⟨p, a, _, rfl, upd_same, .inr ⟨od, by rw [upd_ne (ne_of_none ha1 hp)]; exact ha1⟩, fun q hq => ?_⟩
      have h1 : PD c σ Q Hf1 (.lst ds) l1 := h1
      have ez : (ks.zip vs).map (·.2) = vs := by
        rw [show (fun x : Key × V => x.2) = Prod.snd from rfl, List.map_snd_zip (by omega)]
      rw [ez]
      exact h1.new (R1.hid hp) hq (RVal.lstNew ((R1.hid hp).free hq) rv)
    | _ => exact h1.elim⟩
end
end Dx

/-! Dx.Dice: the dice read, written, lent; a comprehension stored. -/
namespace Dx
open PySem PySem.Spec PyProof.Rows L2

def nth3 : Nat → Int × Int × Int → Int
  | 0, t => t.1
  | 1, t => t.2.1
  | _, t => t.2.2
def set3 : Nat → Int × Int × Int → Int → Int × Int × Int
  | 0, t, v => (v, t.2.1, t.2.2)
  | 1, t, v => (t.1, v, t.2.2)
  | _, t, v => (t.1, t.2.1, v)
def l3 (t : Int × Int × Int) : List V := [.int t.1, .int t.2.1, .int t.2.2]
theorem l3_get (t : Int × Int × Int) {k : Nat} (h : k < 3) : atI (l3 t) (k : Int) = some (.int (nth3 k t)) := by
  match k, h with
  | 0, _ => rfl
  | 1, _ => rfl
  | 2, _ => rfl
theorem l3_set (t : Int × Int × Int) (v : Int) {k : Nat} (h : k < 3) : (l3 t).set k (.int v) = l3 (set3 k t v) := by
  match k, h with
  | 0, _ => rfl
  | 1, _ => rfl
  | 2, _ => rfl
def sDie (i k : Nat) : LSt → Res D := fun l => match l.sl[i]? with
  | some (.v .dice) => (match l.g.d with
    | some t => .ok (.int (nth3 k t)) l
    | none => .bad)
  | _ => .bad
def LSt.withD (l : LSt) (t : Option (Int × Int × Int)) : LSt := { l with g := { l.g with d := t } }
def zDie (i k : Nat) (fe : LSt → Res D) : LSt → Fl := fun l => (fe l).toFl fun d l => match d with
  | .int v => (match l.sl[i]? with
    | some (.v .dice) => (match l.g.d with
      | some t => .nx (l.withD (some (set3 k t v)))
      | none => .bad)
    | _ => .bad)
  | _ => .bad
theorem REnv.setd {c : Ac} {Hf H : Hp} {σ : L2.St} {l : LSt} (R : REnv c Hf σ H l) {t : Int × Int × Int} (t' : Int × Int × Int) (h : l.g.d = some t) : REnv c Hf σ (upd H c.ad.d (.lst (l3 t'))) (l.withD (some t')) := by
  have hs : l.g.sh.1 = true := by
    show l.g.d.isSome = true
    rw [h]
    rfl
  have hne : ∀ {a : Addr}, ¬ isD c.toCn l.g c.ad a → a ≠ c.ad.d := fun {a} nd z => nd (.inl ⟨hs, z⟩)
  have sh : (l.withD (some t')).g.sh = l.g.sh := by
    show (true, l.g.ob.isSome) = (l.g.d.isSome, l.g.ob.isSome)
    rw [h]
    rfl
  have isd : ∀ a, isD c.toCn (l.withD (some t')).g c.ad a ↔ isD c.toCn l.g c.ad a := fun a => isD_iff sh
  obtain ⟨d1, d2⟩ := R.dice.dc t.1 t.2.1 t.2.2 h
  have tbk : TbOk c.toCn Hf (upd H c.ad.d (.lst (l3 t'))) := R.dice.tb.keep (Same.refl _) (fun a hT => upd_ne (R.dice.tb.ne hT d2 fun ps z => by cases z)) fun _ _ => rfl
  refine ⟨R.len, fun j s hj => ?_, R.dis, fun b u hb => ?_, R.base, fun b u hb => ?_, ⟨fun x y z q => ?_, fun k fs q => ?_, tbk⟩, sh.trans R.hgs⟩
  · obtain ⟨x, e, q⟩ := R.slot j s hj
    refine ⟨x, e, ?_⟩
    cases s with
    | un => exact True.intro
    | slf => exact q
    | fn => exact q
    | er _ _ => exact q
    | v d => exact q
    | own co' =>
      obtain ⟨a', o', qa, ha', r', n', n0', nd'⟩ := q
      exact ⟨a', o', qa, by rw [upd_ne (hne nd')]; exact ha', r', n', n0', fun z => nd' ((isd a').mp z)⟩
  · have e1 : b ≠ c.ad.d := fun z => by
      rw [z, d1] at hb
      cases hb
    rw [upd_ne e1]
    exact R.sub b u hb
  · obtain ⟨f1, f2, f3⟩ := R.frame b u hb
    exact ⟨by rw [upd_ne (hne f3)]; exact f1, f2, fun z => f3 ((isd b).mp z)⟩
  · cases q
    exact ⟨d1, upd_same⟩
  · obtain ⟨q1, q2, q3, q4, us, q5, q6⟩ := R.dice.obj k fs q
    have e1 : c.ad.oa ≠ c.ad.d := fun w => by
      rcases q5 with ⟨h, _⟩ | ⟨h, _⟩
      · rw [w, d2] at h
        cases h
      · rw [w, d2] at h
        unfold SlX.SlO at h
        cases h
    have e2 : c.ad.od ≠ c.ad.d := fun w => by
      rcases q4 with h | h
      · rw [w, d2] at h
        cases h
      · rw [w, d2] at h
        cases h
    refine ⟨q1, q2, q3, by rw [upd_ne e2]; exact q4, us, ?_, q6⟩
    rcases q5 with ⟨h, e⟩ | ⟨h, e⟩
    · exact .inl ⟨by rw [upd_ne e1]; exact h, e⟩
    · exact .inr ⟨by rw [upd_ne e1]; exact h, by rw [upd_ne e2]; exact e⟩
section
variable {X : Cx} {c : Ac} {W : WX} {x : Str} {np p pos pos' : Pos} {i k j0 : Nat} {e : Expr} {fe : LSt → Res D}
theorem die_run {σ : L2.St} {H : Hp} {Q : VK} (hk : k < 3) (hK : X.K = c.K) (h : tD c W (sDie i k) σ H Q) : tOp (rIxL X.K) (tVar i) (tC (.int (k : Int))) σ H Q := by
  obtain ⟨Hf, l, R, h⟩ := h
  unfold sDie at h
  cases e1 : l.sl[i]? with
  | none =>
    rw [e1] at h
    exact h.elim
  | some s =>
    rw [e1] at h
    cases s with
    | v d =>
      cases d with
      | dice =>
        have h : wpR (match l.g.d with
          | some t => .ok (.int (nth3 k t)) l
          | none => .bad) (PD c σ Q Hf) (PX c W σ Hf) := h
        cases e2 : l.g.d with
        | none =>
          rw [e2] at h
          exact h.elim
        | some t =>
          rw [e2] at h
          obtain ⟨v, ev, rv⟩ := R.val e1
          obtain rfl : v = .ref c.ad.d := rv
          refine ⟨_, ev, c.ad.d, l3 t, (k : Int), .int (nth3 k t), rfl, rfl, ?_, l3_get t hk, h _ H Hf R (Same.refl _) rfl⟩
          exact SqL.of (R.dice.dc t.1 t.2.1 t.2.2 e2).2
      | _ => exact h.elim
    | _ => exact h.elim
theorem de_die (hk : k < 3) (hK : X.K = c.K) (pv : PE X (.Name x np) (tVar i)) (hs : PlainIx (.Constant (.int (k : Int)) j0 p)) : DE X c W (.Subscript (.Name x np) (.Constant (.int (k : Int)) j0 p) pos) (sDie i k) :=
  ⟨(pe_ix ix_list pv pe_int hs).imp' fun _ _ _ h => die_run hk hK h⟩
theorem ds_die (hk : k < 3) (hK : X.K = c.K) (pv : PE X (.Name x np) (tVar i)) (he : DE X c W e fe)
    (ha : ∀ v, assign (.Subscript (.Name x np) (.Constant (.int (k : Int)) j0 p) pos') X.env v = (do
      let ov ← holding [v] (eval (.Name x np) X.env)
      let iv ← holding [v, ov] (eval (.Constant (.int (k : Int)) j0 p) X.env)
      standAt pos'
      holding [v, ov, iv] (setItem ov iv v)
      release [v, ov, iv] []) := by intros; rfl)
    (hs : swapsWithSole [.Subscript (.Name x np) (.Constant (.int (k : Int)) j0 p) pos'] e pos.line X.env = pure false := by rfl) (hw : swappedStores [.Subscript (.Name x np) (.Constant (.int (k : Int)) j0 p) pos'] e X.env = pure none := by rfl)
    (h1 : (assignEach [.Subscript (.Name x np) (.Constant (.int (k : Int)) j0 p) pos'] X.env).map (·.2) = [assign (.Subscript (.Name x np) (.Constant (.int (k : Int)) j0 p) pos') X.env] := by rfl) :
    DS X c W (.Assign [.Subscript (.Name x np) (.Constant (.int (k : Int)) j0 p) pos'] e pos) (zDie i k fe) :=
  ⟨(ps_asg he.pe (pg_sub pv pe_int set_list) hs hw h1).imp' fun D σ H ⟨Hf, l, R, h⟩ => to_bind R h fun d l1 v H1 Hf1 R1 s1 r1 h1 => by
    cases d with
    | int n =>
      have h1 : wpF c W D Hf1 (match l1.sl[i]? with
        | some (.v .dice) => (match l1.g.d with
          | some t => .nx (l1.withD (some (set3 k t n)))
          | none => .bad)
        | _ => .bad) := h1
      cases e1 : l1.sl[i]? with
      | none =>
        rw [e1] at h1
        exact h1.elim
      | some s =>
        rw [e1] at h1
        cases s with
        | v d =>
          cases d with
          | dice =>
            have h1 : wpF c W D Hf1 (match l1.g.d with
              | some t => .nx (l1.withD (some (set3 k t n)))
              | none => .bad) := h1
            cases e2 : l1.g.d with
            | none =>
              rw [e2] at h1
              exact h1.elim
            | some t =>
              rw [e2] at h1
              obtain ⟨w, ev, rv⟩ := R1.val e1
              obtain rfl : w = .ref c.ad.d := rv
              obtain rfl : v = .int n := r1
              have hd := (R1.dice.dc t.1 t.2.1 t.2.2 e2).2
              refine ⟨_, ev, c.ad.d, l3 t, (k : Int), k, rfl, rfl, hd, ?_, ?_⟩
              · unfold ixN
                rw [if_pos (by omega), if_pos (by show (k : Int) < ((3 : Nat) : Int); omega)]
                rfl
              · rw [l3_set t n hk]
                exact h1 σ _ Hf1 (R1.setd (set3 k t n) e2) (Same.refl _)
          | _ => exact h1.elim
        | _ => exact h1.elim
    | _ => exact h1.elim⟩
end

/-! ### the dice are lent -/
mutual
def D.nod : D → Bool
  | .dice => false
  | .tup ds => D.nods ds
  | .lst ds => D.nods ds
  | .dK _ ds => D.nods ds
  | .dT _ ds => D.nods ds
  | .ins _ ds => D.nods ds
  | .non => true
  | .bl _ => true
  | .int _ => true
  | .str _ => true
  | .scr _ => true
  | .ty _ => true
  | .glo _ => true
  | .rng _ _ => true
def D.nods : List D → Bool
  | [] => true
  | d :: ds => D.nod d && D.nods ds
end
mutual
theorem RVal.ndc {cn : Cn} {ad ad' : Ad} {H : Hp} : ∀ (d : D) (v : V), d.nod = true → RVal cn ad H d v → RVal cn ad' H d v
  | .non, _, _, q => q
  | .bl _, _, _, q => q
  | .int _, _, _, q => q
  | .str _, _, _, q => q
  | .tup ds, _, h, ⟨a, vs, q, h1, r⟩ => ⟨a, vs, q, h1, RVals.ndc ds vs (by simpa [D.nod] using h) r⟩
  | .lst ds, _, h, ⟨a, vs, q, h1, r⟩ => ⟨a, vs, q, h1, RVals.ndc ds vs (by simpa [D.nod] using h) r⟩
  | .scr _, _, _, q => q
  | .dK ks ds, _, h, ⟨a, od, vs, q, h1, l, r⟩ => ⟨a, od, vs, q, h1, l, RVals.ndc ds vs (by simpa [D.nod] using h) r⟩
  | .dT ks ds, _, h, ⟨a, od, vs, q, h1, l, r⟩ => ⟨a, od, vs, q, h1, l, RVals.ndc ds vs (by simpa [D.nod] using h) r⟩
  | .ins n fs, _, h, ⟨a, dx, vs, q, h1, h2, r⟩ => ⟨a, dx, vs, q, h1, h2, RVals.ndc fs vs (by simpa [D.nod] using h) r⟩
  | .ty _, _, _, q => q
  | .glo _, _, _, q => q
  | .dice, _, h, _ => by simp [D.nod] at h
  | .rng _ _, _, _, q => q
theorem RVals.ndc {cn : Cn} {ad ad' : Ad} {H : Hp} : ∀ (ds : List D) (vs : List V), D.nods ds = true → RVals cn ad H ds vs → RVals cn ad' H ds vs
  | [], _, _, q => q
  | d :: ds, _, h, ⟨v, r, q, h1, t⟩ => ⟨v, r, q, RVal.ndc d v (by simp [D.nods] at h; exact h.1) h1, RVals.ndc ds r (by simp [D.nods] at h; exact h.2) t⟩
end
def lendRes (i : Nat) (l : LSt) : FR → Res D
  | .ok e g => match g.d with
    | some (x, y, z) => if e.d.nod = true then .ok e.d ⟨l.sl.set i (.own (.lst [.int x, .int y, .int z])), { g with d := none }⟩ else .bad
    | none => .bad
  | _ => .bad
def dice3 : Slot → Option (Int × Int × Int)
  | .own (.lst [.int x, .int y, .int z]) => some (x, y, z)
  | _ => none
theorem dice3_eq {s : Slot} {x y z : Int} (h : dice3 s = some (x, y, z)) : s = .own (.lst [.int x, .int y, .int z]) := by
  unfold dice3 at h
  split at h
  · cases h
    rfl
  · cases h
def sLend (i : Nat) (m : Fm) (a : LSt → Res (List D)) : LSt → Res D := fun l => match l.sl[i]? with
  | some (.own _) => (a l).bind fun ds l => (match (l.sl[i]?).bind dice3, l.g.d, l.g.ob with
    | some (x, y, z), none, none => if D.nods ds = true then lendRes i l (m (.dice :: ds) ⟨some (x, y, z), none⟩) else .bad
    | _, _, _ => .bad)
  | _ => .bad
theorem REnv.lent {c : Ac} {Hf H Hf' H' : Hp} {σ : L2.St} {l : LSt} {i : Nat} {co : CO} {a : Addr} {t : Int × Int × Int} {x y z : Int} {g' : G} (R : REnv c Hf σ H l) (hi : l.sl[i]? = some (.own co)) (hd : l.g.d = none) (ho : l.g.ob = none) (ea : σ[i]? = some (some (.ref a)))
    (A : Aft c.toCn { c.ad with d := a } ⟨some t, none⟩ g' H Hf H' Hf') (e : g'.d = some (x, y, z)) : REnv c Hf' σ H' ⟨l.sl.set i (.own (.lst [.int x, .int y, .int z])), { g' with d := none }⟩ := by
  obtain ⟨a0, o0, e0, ha0, _, n0, h0, nd0⟩ := R.own hi
  rw [ea] at e0
  cases e0
  have hil : i < l.sl.length := (List.getElem?_eq_some_iff.mp hi).1
  have sh2 : g'.ob.isSome = l.g.ob.isSome := by
    rw [ho]
    exact congrArg Prod.snd A.hgs
  have sh : ({ g' with d := none } : G).sh = l.g.sh := by
    show (false, g'.ob.isSome) = (l.g.d.isSome, l.g.ob.isSome)
    rw [hd, sh2]
    rfl
  have isd : ∀ b, isD c.toCn ({ g' with d := none } : G) c.ad b ↔ isD c.toCn l.g c.ad b := fun b => isD_iff sh
  have isd1 : ∀ {b}, ¬ isD c.toCn l.g c.ad b → b ≠ a → ¬ isD c.toCn (⟨some t, none⟩ : G) { c.ad with d := a } b := fun {b} h ne q => by
    rcases q with ⟨_, q⟩ | ⟨q, _⟩ | q
    · exact ne q
    · cases q
    · exact h (.inr (.inr q))
  obtain ⟨d1, d2⟩ := A.dice.dc x y z e
  refine ⟨by rw [List.length_set]; exact R.len, fun j s hj => ?_, fun j k s t b hj hk os ot ej ek => ?_, A.sub, R.base.trans A.grow, fun b u hb => ?_, ⟨fun x y z q => (nomatch q), fun k fs q => ?_, A.dice.tb⟩, sh.trans R.hgs⟩
  · have hj' : (l.sl.set i (.own (.lst [.int x, .int y, .int z])))[j]? = some s := hj
    by_cases hji : j = i
    · subst hji
      rw [List.getElem?_set_self hil] at hj'
      cases hj'
      exact ⟨_, ea, a, _, rfl, d2, ⟨_, rfl, .cons rfl (.cons rfl (.cons rfl .nil))⟩, d1, h0, fun q => nd0 ((isd a).mp q)⟩
    · rw [List.getElem?_set_ne (Ne.symm hji)] at hj'
      obtain ⟨x', e', q⟩ := R.slot j s hj'
      refine ⟨x', e', ?_⟩
      cases s with
      | un => exact True.intro
      | slf => exact q
      | fn => exact q
      | er _ _ => exact q.mono A.grow
      | v d =>
        obtain ⟨v, qv, rv⟩ := q
        exact ⟨v, qv, rv.mono A.grow⟩
      | own co' =>
        obtain ⟨a', o', qa, ha', r', n', n0', nd'⟩ := q
        have ne : a' ≠ a := fun w => hji (R.dis j i _ _ a hj' hi rfl rfl (by rw [e', qa, w]) ea)
        obtain ⟨e1, e2⟩ := A.frame a' o' ha' n' (isd1 nd' ne)
        exact ⟨a', o', qa, e1, r'.mono A.grow, e2, n0', fun w => nd' ((isd a').mp w)⟩
  · have back : ∀ {m : Nat} {u : Slot}, (l.sl.set i (.own (.lst [.int x, .int y, .int z])))[m]? = some u → isOwn u = true → ∃ u', l.sl[m]? = some u' ∧ isOwn u' = true := fun {m u} hm ou => by
      by_cases w : m = i
      · subst w
        exact ⟨_, hi, rfl⟩
      · rw [List.getElem?_set_ne (Ne.symm w)] at hm
        exact ⟨u, hm, ou⟩
    obtain ⟨s', hs', os'⟩ := back hj os
    obtain ⟨t', ht', ot'⟩ := back hk ot
    exact R.dis j k s' t' b hs' ht' os' ot' ej ek
  · obtain ⟨e1, e2, e3⟩ := R.frame b u hb
    have ne : b ≠ a := fun w => by
      rw [w, h0] at hb
      cases hb
    obtain ⟨e4, e5⟩ := A.frame b u e1 e2 (isd1 e3 ne)
    exact ⟨e4, e5, fun w => e3 ((isd b).mp w)⟩
  · exfalso
    have q' : g'.ob = some (k, fs) := q
    rw [q', ho] at sh2
    cases sh2
section
variable {X : Cx} {c : Ac} {W : WX} {x xd : Str} {p pd pos : Pos} {i k : Nat} {es : List Expr} {fs : LSt → Res (List D)} {m : Fm} {f : Addr}
theorem lend_run {σ : L2.St} {H : Hp} {Q : VK} (h : tD c W (sLend i m fs) σ H Q) : tCons (tVar i) (tA c W fs) σ H fun vs H1 => spF c.toCn m vs H1 (LkP Q) (WE W σ) := by
  obtain ⟨Hf, l, R, h⟩ := h
  unfold sLend at h
  cases e1 : l.sl[i]? with
  | none =>
    rw [e1] at h
    exact h.elim
  | some s =>
    rw [e1] at h
    cases s with
    | own co0 =>
      obtain ⟨a, o0, ea, _⟩ := R.own e1
      refine ⟨.ref a, ea, run_bindA PD.mo R h fun ds l1 vs H1 Hf1 R1 s1 r1 h1 => ?_⟩
      cases e2' : (l1.sl[i]?).bind dice3 with
      | none =>
        rw [e2'] at h1
        exact h1.elim
      | some t0 =>
        obtain ⟨x, y, z⟩ := t0
        rw [e2'] at h1
        rw [Option.bind_eq_some_iff] at e2'
        obtain ⟨s2, e2, e2'⟩ := e2'
        rw [dice3_eq e2'] at e2
        cases e3 : l1.g.d with
        | some _ =>
          rw [e3] at h1
          exact h1.elim
        | none =>
          cases e4 : l1.g.ob with
          | some _ =>
            rw [e3, e4] at h1
            exact h1.elim
          | none =>
            rw [e3, e4] at h1
            have h1 : wpR (if D.nods ds = true then lendRes i l1 (m (.dice :: ds) ⟨some (x, y, z), none⟩) else .bad) (PD c σ Q Hf1) (PX c W σ Hf1) := h1
            split at h1
            · rename_i hn
              obtain ⟨a', o', ea', ha', rc, nf, n0, nd⟩ := R1.own e2
              rw [ea] at ea'
              cases ea'
              obtain ⟨us, rfl, ru⟩ := rc
              obtain ⟨u1, r1', q1, k1, u2, r2', q2, k2, u3, r3', q3, k3, q4⟩ := ru
              subst q1 q2 q3
              cases (show _ = [] from q4)
              cases k1
              cases k2
              cases k3
              refine ⟨Hf1, { c.ad with d := a }, .dice :: ds, ⟨some (x, y, z), none⟩, R1.sub, ⟨fun x' y' z' q => by cases q; exact ⟨nf, ha'⟩, fun k fs q => (nomatch q), R1.dice.tb⟩, .cons rfl (RVals.ndc _ _ hn r1), ?_⟩
              cases em : m (.dice :: ds) ⟨some (x, y, z), none⟩ with
              | bad =>
                rw [em] at h1
                exact h1
              | ex q g =>
                rw [em] at h1
                exact h1.elim
              | ok ev g =>
                rw [em] at h1
                have h1 : wpR (match g.d with
                  | some (x, y, z) => if ev.d.nod = true then .ok ev.d ⟨l1.sl.set i (.own (.lst [.int x, .int y, .int z])), { g with d := none }⟩ else .bad
                  | none => .bad) (PD c σ Q Hf1) (PX c W σ Hf1) := h1
                cases eg : g.d with
                | none =>
                  rw [eg] at h1
                  exact h1.elim
                | some t =>
                  obtain ⟨x', y', z'⟩ := t
                  rw [eg] at h1
                  have h1 : wpR (if ev.d.nod = true then .ok ev.d ⟨l1.sl.set i (.own (.lst [.int x', .int y', .int z'])), { g with d := none }⟩ else .bad) (PD c σ Q Hf1) (PX c W σ Hf1) := h1
                  split at h1
                  · rename_i hnd
                    intro v H' Hf' A rv
                    have R2 := R1.lent e2 e3 e4 ea A eg
                    cases ev with
                    | v d => exact .inl (h1 v H' Hf' R2 A.grow (RVal.ndc _ _ hnd rv))
                    | o co =>
                      obtain ⟨b, ob, rfl, hb, rc, nb, nH, ndb⟩ := rv
                      have hb0 : c.hid b = none := by
                        cases e0 : c.hid b with
                        | none => rfl
                        | some u =>
                          have := (R1.frame b u e0).1
                          rw [nH] at this
                          cases this
                      have ndc : ¬ isD c.toCn ({ g with d := none } : G) c.ad b := fun q => by
                        rcases q with ⟨q, _⟩ | q
                        · cases q
                        · exact ndb (.inr q)
                      refine rc.lkp hb fun od => h1 _ _ _ (R2.see _ hb nb hb0 ndc ?_) (A.grow.trans (same_upd nb)) (RVal.ndc _ _ hnd (rc.val od nb))
                      intro j s hj ho e'
                      have back : ∃ u', l1.sl[j]? = some u' ∧ isOwn u' = true := by
                        by_cases w : j = i
                        · subst w
                          exact ⟨_, e2, rfl⟩
                        · rw [show (⟨l1.sl.set i (.own (.lst [.int x', .int y', .int z'])), { g with d := none }⟩ : LSt).sl = l1.sl.set i (.own (.lst [.int x', .int y', .int z'])) from rfl, List.getElem?_set_ne (Ne.symm w)] at hj
                          exact ⟨s, hj, ho⟩
                      obtain ⟨u', hu, ou⟩ := back
                      cases u' with
                      | own co' =>
                        obtain ⟨a', o', e2', ha'', _⟩ := R1.own hu
                        rw [e2'] at e'
                        cases e'
                        rw [nH] at ha''
                        cases ha''
                      | _ => cases ou
                  · exact h1.elim
            · exact h1.elim
    | _ => exact h.elim
theorem de_lend (F : FnR X.prog X.w X.K X.mg X.base (L2.CX X.prog X.w) k f (spF c.toCn m)) (hr : Room k X.A) (tk : Takes X W) (hg : Gl X x) (hm : X.mg x = some (.ref f)) (hk : PySem.W.keepIn X.K (.ref f) = true)
    (pv : PE X (.Name xd pd) (tVar i)) (ha : DA X c W es fs) (hdb : (x == ("__debug__" : Str)) = false := by decide) (he : starEach (.Name xd pd :: es) X.env = (false, eval (.Name xd pd) X.env) :: starEach es X.env := by rfl) (hpl : (backTo pos (starEach es X.env)).any (·.1) = false := by rfl) :
    DE X c W (.Call (.Name x p) (.Name xd pd :: es) [] pos) (sLend i m fs) :=
  ⟨(pe_fz (pe_callR F hr (fun σ => passAt tk σ) hg hm hk (pa_cons pv ha.pa he) hdb he hpl)).imp' fun σ H Q h => lend_run h⟩
end

/-! ### y = [..] -/
section
variable {X : Cx} {c : Ac} {W : WX} {elt tg iter : Expr} {ifs : List Expr} {scope : Scope} {own : List (Str × Nat)} {pos spos py : Pos} {f : LSt → Res (List D)} {t : Tgt} {tt : LSt → Res Bool} {fe : LSt → Res D} {ws : List Nat} {i : Nat} {y : Str}
theorem ds_setLc (hc : X.calm = true) (hN : X.N.Nodup) (hy : X.N[i]? = some y) (hyl : X.env.scope.names.lookup y = some .local)
    (hsw : swapsWith (.ListComp elt [⟨tg, iter, ifs, 0⟩] scope pos) (some (.Name y py)) spos.line X.env = pure true) (hi : DI X c W tg iter f) (ok : BlkOk X.N X.env.scope scope own) (hws : ∀ j ∈ ws, j ∈ own.map (·.2))
    (hg : ∀ (s : Shared) (H : Hp) (C : Addr) (cl : List (Str × Addr)) (fp : List Addr), DG (X.blk s H scope (compEnvC scope cl C X.env) fp) c tg t ws)
    (ht : ∀ (s : Shared) (H : Hp) (C : Addr) (cl : List (Str × Addr)) (fp : List Addr) (c' : Ac), c'.toCn = c.toCn → DTs (X.blk s H scope (compEnvC scope cl C X.env) fp) c' W0 ifs tt)
    (he : ∀ (s : Shared) (H : Hp) (C : Addr) (cl : List (Str × Addr)) (fp : List Addr) (c' : Ac), c'.toCn = c.toCn → DE (X.blk s H scope (compEnvC scope cl C X.env) fp) c' W0 elt fe) (hs : ∀ x, foldedSetIterable iter X.env x = pure x := by intro _; rfl) :
    DS X c W (.Assign [.Name y py] (.ListComp elt [⟨tg, iter, ifs, 0⟩] scope pos) spos) (zSetO i (sComp f t tt fe (own.map (·.2)))) := by
  exact ⟨(ps_setLc (g := gD c t ws) (tt := fun σ H Q => ∃ c' : Ac, c'.toCn = c.toCn ∧ tB c' W0 tt σ H Q) (te := fun σ H Q => ∃ c' : Ac, c'.toCn = c.toCn ∧ tD c' W0 fe σ H Q) hc hN hy hyl hsw hi.pi ok (fun s H C cl fp => (hg s H C cl fp).can)
    (fun s H C cl fp => ⟨fun pins s1 σ H1 Q I ⟨c', h1, h2⟩ => (ht s H C cl fp c' h1).pts.run pins s1 σ H1 Q I h2⟩)
    (fun s H C cl fp => ⟨fun pins s1 σ H1 Q I ⟨c', h1, h2⟩ => (he s H C cl fp c' h1).pe.run pins s1 σ H1 Q I h2⟩) hs).imp' fun D σ H ⟨Hf, l, R, hh⟩ =>
      lc_run hws (fun v σ H Q c' Hf l l' d h1 h2 h3 h4 h5 => ⟨c', Hf, l, l', d, h1, h2, h3, h4, h5⟩) (fun c' σ H Q e h => ⟨c', e, h⟩) (fun c' σ H Q e h => ⟨c', e, h⟩)
        (to_bindO R hh fun co l1 h1 => fun a o H' Hf' R' s' ha r n n0 nd fr => h1 _ H' Hf' (R'.storeO ha r n n0 nd fr) s')⟩
end
end Dx

/-! Dx.Gen: the rules, with what they ask of the surroundings put into one word. -/
namespace Dx
open PySem PySem.Spec PyProof.Rows L2

structure Ctx (X : Cx) (c : Ac) (W : WX) (cn : Cn) (k : Nat) : Prop where
  hK : X.K = c.K
  hc : c.toCn = cn
  hr : Room k X.A
  tk : Takes X W
  calm : X.calm = true
  nd : X.N.Nodup
  pass : PassesOwn (model X.prog X.w) X.A X.env X.xe
theorem Ctx.blk {X : Cx} {c c' : Ac} {W : WX} {cn : Cn} {k : Nat} (Z : Ctx X c W cn k) (e : c'.toCn = c.toCn) (s : Shared) (H : Hp) (scope : Scope) (env : Env) (fp : List Addr) : Ctx (X.blk s H scope env fp) c' W0 cn k :=
  ⟨Z.hK.trans (congrArg Cn.K e).symm, e.trans Z.hc, Z.hr, takes0, Z.calm, Z.nd, PassesOwn.never⟩
theorem Ctx.to {X : Cx} {c c' : Ac} {W : WX} {cn : Cn} {k : Nat} (Z : Ctx X c W cn k) (e : c'.toCn = c.toCn) (tk : Takes X W0) : Ctx X c' W0 cn k :=
  ⟨Z.hK.trans (congrArg Cn.K e).symm, e.trans Z.hc, Z.hr, tk, Z.calm, Z.nd, Z.pass⟩
/-- a def, called by its name -/
structure Cal (P : Program) (w : World) (K : PySem.W.Frag) (mg : Str → Option Value) (base : Heap) (cn : Cn) (k : Nat) (x : Str) (m : Fm) : Prop where
  ex : ∃ f, FnR P w K mg base (L2.CX P w) k f (spF cn m) ∧ mg x = some (.ref f) ∧ PySem.W.keepIn K (.ref f) = true
/-- a class, called by its name -/
structure Mkr (P : Program) (w : World) (K : PySem.W.Frag) (mg : Str → Option Value) (base : Heap) (cn : Cn) (k : Nat) (x : Str) (n : Nat) (m : Fm) : Prop where
  ex : ∃ f, Mk K (cn.cA n) f ∧ FnR P w K mg base (L2.CX P w) k f (spI cn n m) ∧ mg x = some (.ref (cn.cA n))
section
variable {X : Cx} {c : Ac} {W : WX} {cn : Cn} {k j : Nat} {a b e : Expr} {es : List Expr} {pos p np apos : Pos} {fa fb fe : LSt → Res D} {fs : LSt → Res (List D)} {x y : Str}
theorem e_var (i : Nat) (hN : X.N[i]? = some x := by rfl) (hv : Vis X.env.scope x := by first | exact Or.inl rfl | exact Or.inr (Or.inl rfl) | exact Or.inr (Or.inr rfl)) (hd : (x == ("__debug__" : Str)) = false := by decide)
    (hcd : (x == ("__classdict__" : Str)) = false := by decide) : DE X c W (.Name x pos) (sVar i) := de_var (pe_var hN hv hd hcd)
theorem e_add (Z : Ctx X c W cn k) (ha : DE X c W a fa) (hb : DE X c W b fb) : DE X c W (.BinOp a .Add b pos) (sBin addD fa fb) := de_op op_addA (Z.hK ▸ ok_add ⟨_, rfl⟩) ha hb
theorem e_mul (Z : Ctx X c W cn k) (ha : DE X c W a fa) (hb : DE X c W b fb) : DE X c W (.BinOp a .Mult b pos) (sBin mulD fa fb) := de_op op_mulA (Z.hK ▸ ok_mul) ha hb
theorem e_sub (ha : DE X c W a fa) (hb : DE X c W b fb) : DE X c W (.BinOp a .Sub b pos) (sBin subD fa fb) := de_op op_sub ok_sub ha hb
theorem e_div (ha : DE X c W a fa) (hb : DE X c W b fb) : DE X c W (.BinOp a .FloorDiv b pos) (sBin divD fa fb) := de_op op_divA ok_div ha hb
theorem e_mod (ha : DE X c W a fa) (hb : DE X c W b fb) : DE X c W (.BinOp a .Mod b pos) (sBin modD fa fb) := de_op op_modN ok_mod ha hb
theorem e_pow (ha : DE X c W a fa) (hb : DE X c W b fb) : DE X c W (.BinOp a .Pow b pos) (sBin powD fa fb) := de_op op_pow ok_pow ha hb
theorem e_neg (ha : DE X c W a fa) : DE X c W (.UnaryOp .USub a pos) (sUn negD fa) := de_un un_neg ok_neg ha
theorem e_eq (Z : Ctx X c W cn k) (ha : DE X c W a fa) (hb : DE X c W b fb) : DE X c W (.Compare a [.Eq] [b] pos) (sBin eqD fa fb) := de_cmp (op_eqD Z.hr.units) (Z.hK ▸ ok_eq) ha hb (nomark _)
theorem e_ne (Z : Ctx X c W cn k) (ha : DE X c W a fa) (hb : DE X c W b fb) : DE X c W (.Compare a [.NotEq] [b] pos) (sBin neD fa fb) := de_cmp (op_neD Z.hr.units) (Z.hK ▸ ok_ne) ha hb (nomark _)
theorem e_lt (ha : DE X c W a fa) (hb : DE X c W b fb) : DE X c W (.Compare a [.Lt] [b] pos) (sBin ltD fa fb) := de_cmp op_lt ok_cmpI ha hb (nomark _)
theorem e_le (ha : DE X c W a fa) (hb : DE X c W b fb) : DE X c W (.Compare a [.LtE] [b] pos) (sBin leD fa fb) := de_cmp op_le ok_cmpI ha hb (nomark _)
theorem e_gt (ha : DE X c W a fa) (hb : DE X c W b fb) : DE X c W (.Compare a [.Gt] [b] pos) (sBin gtD fa fb) := de_cmp op_gt ok_cmpI ha hb (nomark _)
theorem e_ge (ha : DE X c W a fa) (hb : DE X c W b fb) : DE X c W (.Compare a [.GtE] [b] pos) (sBin geD fa fb) := de_cmp op_ge ok_cmpI ha hb (nomark _)
theorem e_isN (ha : DE X c W a fa) (hb : DE X c W b fb) : DE X c W (.Compare a [.Is] [b] pos) (sBin isND fa fb) := de_cmp op_isN ok_isN ha hb (nomark _)
theorem t_eq (Z : Ctx X c W cn k) (ha : DE X c W a fa) (hb : DE X c W b fb) : DT X c W (.Compare a [.Eq] [b] pos) (sTst (sBin eqD fa fb)) := dt_cmp (op_eqD Z.hr.units) (Z.hK ▸ ok_eq) ha hb (nomark _)
theorem t_ne (Z : Ctx X c W cn k) (ha : DE X c W a fa) (hb : DE X c W b fb) : DT X c W (.Compare a [.NotEq] [b] pos) (sTst (sBin neD fa fb)) := dt_cmp (op_neD Z.hr.units) (Z.hK ▸ ok_ne) ha hb (nomark _)
theorem t_lt (ha : DE X c W a fa) (hb : DE X c W b fb) : DT X c W (.Compare a [.Lt] [b] pos) (sTst (sBin ltD fa fb)) := dt_cmp op_lt ok_cmpI ha hb (nomark _)
theorem t_le (ha : DE X c W a fa) (hb : DE X c W b fb) : DT X c W (.Compare a [.LtE] [b] pos) (sTst (sBin leD fa fb)) := dt_cmp op_le ok_cmpI ha hb (nomark _)
theorem t_gt (ha : DE X c W a fa) (hb : DE X c W b fb) : DT X c W (.Compare a [.Gt] [b] pos) (sTst (sBin gtD fa fb)) := dt_cmp op_gt ok_cmpI ha hb (nomark _)
theorem t_ge (ha : DE X c W a fa) (hb : DE X c W b fb) : DT X c W (.Compare a [.GtE] [b] pos) (sTst (sBin geD fa fb)) := dt_cmp op_ge ok_cmpI ha hb (nomark _)
theorem t_isN (ha : DE X c W a fa) (hb : DE X c W b fb) : DT X c W (.Compare a [.Is] [b] pos) (sTst (sBin isND fa fb)) := dt_cmp op_isN ok_isN ha hb (nomark _)
theorem t_tru (Z : Ctx X c W cn k) (ha : DE X c W a fa) (he : ∀ whole, isTrue a X.env whole = (do let v ← whole; standAt a.pos; holding [v] (truthy v)) := by intro _; rfl) : DT X c W a (sTru fa) := dt_tru Z.hK ha he
theorem e_ix (Z : Ctx X c W cn k) (ha : DE X c W a fa) (hb : DE X c W b fb) (hs : PlainIx b := by intro _ _; rfl) : DE X c W (.Subscript a b pos) (sBin ixD fa fb) := de_ix Z.hK ha hb hs
section
variable {hgt : Unit}
theorem e_len (Z : Ctx X c W cn k) (hm : X.mg "len" = none) (ha : DE X c W a fa) (hg : Gl X "len" := by rfl) (he : starEach [a] X.env = (false, eval a X.env) :: starEach [] X.env := by rfl) : DE X c W (.Call (.Name "len" p) [a] [] pos) (sBlt lenD (sCons fa sNil)) :=
  de_blt cr_len2 (ok_len Z.hK) hg hm (by rfl) (da_cons ha da_nil he) (by decide) (by decide) he
theorem e_abs (hm : X.mg "abs" = none) (ha : DE X c W a fa) (hg : Gl X "abs" := by rfl) (he : starEach [a] X.env = (false, eval a X.env) :: starEach [] X.env := by rfl) : DE X c W (.Call (.Name "abs" p) [a] [] pos) (sBlt absD (sCons fa sNil)) :=
  de_blt call_abs ok_abs hg hm (by rfl) (da_cons ha da_nil he) (by decide) (by decide) he
theorem e_int (hm : X.mg "int" = none) (ha : DE X c W a fa) (hg : Gl X "int" := by rfl) (he : starEach [a] X.env = (false, eval a X.env) :: starEach [] X.env := by rfl) : DE X c W (.Call (.Name "int" p) [a] [] pos) (sBlt intD (sCons fa sNil)) :=
  de_bltT call_int1 ok_int hg hm (by rfl) (da_cons ha da_nil he) (by decide) (by decide) he
theorem e_tuple (Z : Ctx X c W cn k) (hm : X.mg "tuple" = none) (ha : DE X c W a fa) (hg : Gl X "tuple" := by rfl) (he : starEach [a] X.env = (false, eval a X.env) :: starEach [] X.env := by rfl) : DE X c W (.Call (.Name "tuple" p) [a] [] pos) (sBlt tupD (sCons fa sNil)) :=
  de_bltT call_tuple_of (ok_tup Z.hK) hg hm (by rfl) (da_cons ha da_nil he) (by decide) (by decide) he
theorem e_all (Z : Ctx X c W cn k) (hm : X.mg "all" = none) (ha : DE X c W a fa) (hg : Gl X "all" := by rfl) (he : starEach [a] X.env = (false, eval a X.env) :: starEach [] X.env := by rfl) : DE X c W (.Call (.Name "all" p) [a] [] pos) (sBlt allD (sCons fa sNil)) :=
  de_blt (cr_all Z.calm) (ok_all Z.hK) hg hm (by rfl) (da_cons ha da_nil he) (by decide) (by decide) he
theorem e_max (Z : Ctx X c W cn k) (hm : X.mg "max" = none) (ha : DE X c W a fa) (hb : DE X c W b fb) (hg : Gl X "max" := by rfl) (he : starEach [a, b] X.env = (false, eval a X.env) :: starEach [b] X.env := by rfl) (he2 : starEach [b] X.env = (false, eval b X.env) :: starEach [] X.env := by rfl)
    (hpl : (backTo pos (starEach [b] X.env)).any (·.1) = false := by rfl) : DE X c W (.Call (.Name "max" p) [a, b] [] pos) (sBlt maxD (sCons fa (sCons fb sNil))) :=
  de_blt (call_max2 Z.calm) ok_max hg hm (by rfl) (da_cons ha (da_cons hb da_nil he2) he) (by decide) (by decide) he hpl
theorem e_min (Z : Ctx X c W cn k) (hm : X.mg "min" = none) (ha : DE X c W a fa) (hb : DE X c W b fb) (hg : Gl X "min" := by rfl) (he : starEach [a, b] X.env = (false, eval a X.env) :: starEach [b] X.env := by rfl) (he2 : starEach [b] X.env = (false, eval b X.env) :: starEach [] X.env := by rfl)
    (hpl : (backTo pos (starEach [b] X.env)).any (·.1) = false := by rfl) : DE X c W (.Call (.Name "min" p) [a, b] [] pos) (sBlt minD (sCons fa (sCons fb sNil))) :=
  de_blt (call_min2 Z.calm) ok_min hg hm (by rfl) (da_cons ha (da_cons hb da_nil he2) he) (by decide) (by decide) he hpl
end
variable {m : Fm} {n : Nat}
theorem e_call (Z : Ctx X c W cn k) (C : Cal X.prog X.w X.K X.mg X.base cn j x m) (hj : j ≤ k) (ha : DA X c W (e :: es) fs) (hg : Gl X x := by rfl) (hdb : (x == ("__debug__" : Str)) = false := by decide)
    (he : starEach (e :: es) X.env = (false, eval e X.env) :: starEach es X.env := by rfl) (hpl : (backTo pos (starEach es X.env)).any (·.1) = false := by rfl) : DE X c W (.Call (.Name x p) (e :: es) [] pos) (sCall m fs) := by
  obtain ⟨f, F, h1, h2⟩ := C.ex
  rw [← Z.hc] at F
  exact de_callR (F.mono hj) Z.hr Z.tk hg h1 h2 ha hdb he hpl
theorem o_call (Z : Ctx X c W cn k) (C : Cal X.prog X.w X.K X.mg X.base cn j x m) (hj : j ≤ k) (ha : DA X c W (e :: es) fs) (hg : Gl X x := by rfl) (hdb : (x == ("__debug__" : Str)) = false := by decide)
    (he : starEach (e :: es) X.env = (false, eval e X.env) :: starEach es X.env := by rfl) (hpl : (backTo pos (starEach es X.env)).any (·.1) = false := by rfl) : DO X c W (.Call (.Name x p) (e :: es) [] pos) (sCallO m fs) := by
  obtain ⟨f, F, h1, h2⟩ := C.ex
  rw [← Z.hc] at F
  exact do_callR (F.mono hj) Z.hr Z.tk hg h1 h2 ha hdb he hpl
theorem e_call0 (Z : Ctx X c W cn k) (C : Cal X.prog X.w X.K X.mg X.base cn j x m) (hj : j ≤ k) (hg : Gl X x := by rfl) (hdb : (x == ("__debug__" : Str)) = false := by decide) : DE X c W (.Call (.Name x p) [] [] pos) (sCall m sNil) := by
  obtain ⟨f, F, h1, h2⟩ := C.ex
  rw [← Z.hc] at F
  exact de_callR0 (F.mono hj) Z.hr Z.tk hg h1 h2 hdb
theorem e_lend (Z : Ctx X c W cn k) (C : Cal X.prog X.w X.K X.mg X.base cn j x m) (hj : j ≤ k) (i : Nat) {xd : Str} {pd : Pos} (ha : DA X c W es fs) (pv : PE X (.Name xd pd) (tVar i)) (hg : Gl X x := by rfl) (hdb : (x == ("__debug__" : Str)) = false := by decide)
    (he : starEach (.Name xd pd :: es) X.env = (false, eval (.Name xd pd) X.env) :: starEach es X.env := by rfl) (hpl : (backTo pos (starEach es X.env)).any (·.1) = false := by rfl) : DE X c W (.Call (.Name x p) (.Name xd pd :: es) [] pos) (sLend i m fs) := by
  obtain ⟨f, F, h1, h2⟩ := C.ex
  rw [← Z.hc] at F
  exact de_lend (F.mono hj) Z.hr Z.tk hg h1 h2 pv ha hdb he hpl
theorem e_make (Z : Ctx X c W cn k) (C : Mkr X.prog X.w X.K X.mg X.base cn j x n m) (hj : j + 1 ≤ k) (ha : DA X c W (e :: es) fs) (hg : Gl X x := by rfl) (hdb : (x == ("__debug__" : Str)) = false := by decide)
    (he : starEach (e :: es) X.env = (false, eval e X.env) :: starEach es X.env := by rfl) (hpl : (backTo pos (starEach es X.env)).any (·.1) = false := by rfl) : DE X c W (.Call (.Name x p) (e :: es) [] pos) (sCall (mkC n m) fs) := by
  obtain ⟨f, M, F, h1⟩ := C.ex
  rw [← Z.hc] at F M h1
  exact de_make M F (Z.hr.mono hj) Z.tk hg h1 ha hdb he hpl
end
end Dx

/-! Dx.Gen2: statements, in short words. -/
namespace Dx
open PySem PySem.Spec PyProof.Rows L2

def i2 (f : Int → Int → Int) : D → D → Option D
  | .int i, .int j => some (.int (f i j))
  | _, _ => none
theorem ok_i2 {c : Ac} {f : Int → Int → Int} : BinOk c (ipI f) (i2 f) := by
  intro Hf H σ l d1 d2 d x y Q R r1 r2 e q
  cases d1 <;> cases d2 <;> simp only [i2, reduceCtorEq] at e
  cases e
  exact ⟨_, _, r1, r2, q.flat R rfl⟩
theorem ip_divA {X : Cx} : PIp X .FloorDiv (rI CDivA fun i j => .int (i.fdiv j)) := by
  intro pins s σ H x y v u Q I r1 r2 h
  obtain ⟨i, j, e1, e2, hc, q⟩ := h
  subst e1; subst e2
  obtain ⟨t, rfl⟩ := r1
  obtain ⟨t', rfl⟩ := r2
  exact ifloordiv_int hc.1 ⟨.int _, H, I.tok _, ⟨_, rfl⟩, q⟩ (.inl (PyProof.noPylong_of_log2 hc.2))
theorem ip_mulA {X : Cx} : PIp X .Mult (rI IntMulOk fun i j => .int (i * j)) := by
  intro pins s σ H x y v u Q I r1 r2 h
  obtain ⟨i, j, e1, e2, hc, q⟩ := h
  subst e1; subst e2
  obtain ⟨t, rfl⟩ := r1
  obtain ⟨t', rfl⟩ := r2
  exact imul_int ⟨.int _, H, I.tok _, ⟨_, rfl⟩, q⟩ hc
def mulI : D → D → Option D
  | .int i, .int j => mulD (.int i) (.int j)
  | _, _ => none
theorem ok_mulI {c : Ac} : BinOk c (rI IntMulOk fun i j => .int (i * j)) mulI := by
  intro Hf H σ l d1 d2 d x y Q R r1 r2 e q
  cases d1 <;> cases d2 <;> simp only [mulI, mulD, reduceCtorEq] at e
  split at e
  · rename_i hz
    cases e
    exact ⟨_, _, r1, r2, mulOk_of hz, q.flat R rfl⟩
  · cases e
section
variable {X : Cx} {c : Ac} {W : WX} {cn : Cn} {k : Nat} {e a b : Expr} {pos p : Pos} {x y z : Str} {fe : LSt → Res D}
theorem s_aadd (i : Nat) (Z : Ctx X c W cn k) (he : DE X c W e fe) (hi : X.N[i]? = some x := by rfl) (hx : Loc X.env.scope x := by first | exact Or.inl rfl | exact Or.inr rfl)
    (hf : X.fn x = true ∨ X.env.scope.names.lookup x = some .local := by first | exact .inl rfl | exact .inr rfl) : DS X c W (.AugAssign (.Name x p) .Add e pos) (zAug i (i2 fun i j => i + j) fe) := ds_aug Z.nd hi hx he ip_add ok_i2 hf
theorem s_asub (i : Nat) (Z : Ctx X c W cn k) (he : DE X c W e fe) (hi : X.N[i]? = some x := by rfl) (hx : Loc X.env.scope x := by first | exact Or.inl rfl | exact Or.inr rfl)
    (hf : X.fn x = true ∨ X.env.scope.names.lookup x = some .local := by first | exact .inl rfl | exact .inr rfl) : DS X c W (.AugAssign (.Name x p) .Sub e pos) (zAug i (i2 fun i j => i - j) fe) := ds_aug Z.nd hi hx he ip_sub ok_i2 hf
theorem s_adiv (i : Nat) (Z : Ctx X c W cn k) (he : DE X c W e fe) (hi : X.N[i]? = some x := by rfl) (hx : Loc X.env.scope x := by first | exact Or.inl rfl | exact Or.inr rfl)
    (hf : X.fn x = true ∨ X.env.scope.names.lookup x = some .local := by first | exact .inl rfl | exact .inr rfl) : DS X c W (.AugAssign (.Name x p) .FloorDiv e pos) (zAug i divD fe) := ds_aug Z.nd hi hx he ip_divA ok_div hf
theorem s_amul (i : Nat) (Z : Ctx X c W cn k) (he : DE X c W e fe) (hi : X.N[i]? = some x := by rfl) (hx : Loc X.env.scope x := by first | exact Or.inl rfl | exact Or.inr rfl)
    (hf : X.fn x = true ∨ X.env.scope.names.lookup x = some .local := by first | exact .inl rfl | exact .inr rfl) : DS X c W (.AugAssign (.Name x p) .Mult e pos) (zAug i mulI fe) := ds_aug Z.nd hi hx he ip_mulA ok_mulI hf
theorem g_name (i : Nat) (Z : Ctx X c W cn k) (hi : X.N[i]? = some x := by rfl) (hx : Loc X.env.scope x := by first | exact Or.inl rfl | exact Or.inr rfl)
    (hf : X.fn x = true ∨ X.env.scope.names.lookup x = some .local := by first | exact .inl rfl | exact .inr rfl) : PG X (.Name x pos) (gName i) := pg_name Z.nd hi hx hf
theorem ds_par3 {i j l : Nat} {u v w : Expr} {px py pz pt : Pos} {kt k2 pt2} {fa : LSt → Res (List D)} (Z : Ctx X c W cn k) (hi : X.N[i]? = some x) (hj : X.N[j]? = some y) (hl : X.N[l]? = some z) (hij : i ≠ j) (hil : i ≠ l) (hjl : j ≠ l)
    (hx : X.env.scope.names.lookup x = some .local) (hy : X.env.scope.names.lookup y = some .local) (hz : X.env.scope.names.lookup z = some .local) (ha : DA X c W [u, v, w] fa)
    (hw : swappedStores [.Tuple [.Name x px, .Name y py, .Name z pz] kt pt] (.Tuple [u, v, w] k2 pt2) X.env = pure (some [x, y, z]))
    (hs : swapsWithSole [.Tuple [.Name x px, .Name y py, .Name z pz] kt pt] (.Tuple [u, v, w] k2 pt2) pos.line X.env = pure false := by rfl) :
    DS X c W (.Assign [.Tuple [.Name x px, .Name y py, .Name z pz] kt pt] (.Tuple [u, v, w] k2 pt2) pos) (zPar3 i j l fa) :=
  ⟨(ps_par3 Z.calm Z.nd hi hj hl hij hil hjl hx hy hz ha.pa hw hs).imp' fun D σ H ⟨Hf, l0, R, hh⟩ => to_bindA R hh fun ds l1 vs H1 Hf1 R1 s1 r1 h1 => by
    match ds, r1, h1 with
    | [d1, d2, d3], ⟨v1, r, e, q1, v2, r', e', q2, v3, r'', e'', q3, e4⟩, h1 =>
      subst e e' e''
      cases (show _ = [] from e4)
      exact ⟨v1, v2, v3, rfl, h1 _ H1 Hf1 (((R1.store q1).store q2).store q3) (Same.refl _)⟩
    | [], _, h1 => exact h1.elim
    | [_], _, h1 => exact h1.elim
    | [_, _], _, h1 => exact h1.elim
    | _ :: _ :: _ :: _ :: _, _, h1 => exact h1.elim⟩
theorem r_list (Z : Ctx X c W cn k) {tg : Expr} (he : DE X c W e fe) : DI X c W tg e (sItems fe) := di_list Z.hK he
end
theorem Ctx.at_ {X : Cx} {c : Ac} {W : WX} {cn : Cn} {k : Nat} {f : Str} {tb : Nat → Option Nat} (Z : Ctx X c W cn k) (h : AttrOk cn f tb) : AttrOk c.toCn f tb := by
  rw [Z.hc]
  exact h
section
variable {X : Cx} {c : Ac} {W : WX} {cn : Cn} {k j : Nat} {e o : Expr} {es : List Expr} {pos p apos : Pos} {mn fn : Str} {fo : LSt → Res D} {fs : LSt → Res (List D)} {x : Str}
theorem g_nm (i : Nat) (nd : X.N.Nodup) (hi : X.N[i]? = some x := by rfl) (hx : Loc X.env.scope x := by first | exact Or.inl rfl | exact Or.inr rfl)
    (hf : X.fn x = true ∨ X.env.scope.names.lookup x = some .local := by first | exact .inl rfl | exact .inr rfl) : PG X (.Name x pos) (gName i) := pg_name nd hi hx hf
theorem e_attr {tb : Nat → Option Nat} (Z : Ctx X c W cn k) (ok : AttrOk cn fn tb) (he : DE X c W e fo) (hb : attributeBase e fn X.env (eval e X.env) = eval e X.env := by rfl) : DE X c W (.Attribute e fn pos) (sAttr tb fo) := de_attr Z.hK (Z.at_ ok) he hb
theorem e_self {tb : Nat → Option Nat} {i : Nat} {np : Pos} (Z : Ctx X c W cn k) (ok : AttrOk cn fn tb) (p : PE X (.Name x np) (tVar i)) (hb : attributeBase (.Name x np) fn X.env (eval (.Name x np) X.env) = eval (.Name x np) X.env := by rfl) : DE X c W (.Attribute (.Name x np) fn pos) (sSelf i tb) := de_self Z.hK (Z.at_ ok) p hb
theorem s_self {tb : Nat → Option Nat} {i : Nat} {np pos' : Pos} {fe : LSt → Res D} (Z : Ctx X c W cn k) (ok : AttrOk cn fn tb) (p : PE X (.Name x np) (tVar i)) (he : DE X c W e fe) (hs : swapsWith e (some (.Attribute (.Name x np) fn pos')) pos.line X.env = pure false := by rfl) :
    DS X c W (.Assign [.Attribute (.Name x np) fn pos'] e pos) (zSelf i tb fe) := ds_self Z.hK (Z.at_ ok) p he hs
theorem MthOk.up {P : Program} {w : World} {mg : Str → Option Value} {base : Heap} {tb : Nat → Option Fm} (h : MthOk P w mg base cn j mn tb) (hj : j ≤ k) : MthOk P w mg base cn k mn tb :=
  ⟨fun n m e => let ⟨a, g, b, F⟩ := h.ok n m e; ⟨a, g, b, F.mono hj⟩⟩
theorem PrpOk.up {P : Program} {w : World} {mg : Str → Option Value} {base : Heap} {tb : Nat → Option Fm} (h : PrpOk P w mg base cn j mn tb) (hj : j ≤ k) : PrpOk P w mg base cn k mn tb :=
  ⟨fun n m e => let ⟨a, p, g, b1, b2, b3, b4, F⟩ := h.ok n m e; ⟨a, p, g, b1, b2, b3, b4, F.mono hj⟩⟩
theorem e_mth {tb : Nat → Option Fm} {pl : Sem Bool} (Z : Ctx X c W cn k) (ok : MthOk X.prog X.w X.mg X.base cn j mn tb) (hj : j ≤ k) (ho : DE X c W o fo) (ha : DA X c W (e :: es) fs)
    (hst : starEach (e :: es) X.env = (false, eval e X.env) :: starEach es X.env := by rfl) (hpl : (backTo pos (starEach es X.env)).any (·.1) = false := by rfl)
    (ht : eval (.Call (.Attribute o mn apos) (e :: es) [] pos) X.env = (do
      let ov ← eval o X.env
      standAt apos.atName
      let (f, first) ← holding [ov] (getMethod ov mn pl)
      callWith pos f first (backTo pos (starEach (e :: es) X.env)) (backToKw pos (keywordEach [] X.env))) := by rfl) : DE X c W (.Call (.Attribute o mn apos) (e :: es) [] pos) (sMth tb fo fs) := by
  have ok2 := ok.up hj
  rw [← Z.hc] at ok2
  exact de_mth Z.hK ok2 Z.hr Z.tk ho ha hst hpl ht
theorem e_mth0 {tb : Nat → Option Fm} {pl : Sem Bool} (Z : Ctx X c W cn k) (ok : MthOk X.prog X.w X.mg X.base cn j mn tb) (hj : j ≤ k) (ho : DE X c W o fo)
    (ht : eval (.Call (.Attribute o mn apos) [] [] pos) X.env = (do
      let ov ← eval o X.env
      standAt apos.atName
      let (f, first) ← holding [ov] (getMethod ov mn pl)
      callWith pos f first (backTo pos (starEach [] X.env)) (backToKw pos (keywordEach [] X.env))) := by rfl) : DE X c W (.Call (.Attribute o mn apos) [] [] pos) (sMth tb fo sNil) := by
  have ok2 := ok.up hj
  rw [← Z.hc] at ok2
  exact de_mth0 Z.hK ok2 Z.hr Z.tk ho ht
theorem e_prp {tb : Nat → Option Fm} (Z : Ctx X c W cn k) (ok : PrpOk X.prog X.w X.mg X.base cn j fn tb) (hj : j + 1 ≤ k) (he : DE X c W e fo) (hb : attributeBase e fn X.env (eval e X.env) = eval e X.env := by rfl) : DE X c W (.Attribute e fn pos) (sPrp tb fo) := by
  rw [← Z.hc] at ok
  exact de_prp Z.hK ok (Z.hr.mono hj) he hb
end
/-- a def's table of one class -/
def tb1 {α : Type} (n : Nat) (x : α) : Nat → Option α := fun m => if m = n then some x else none
theorem fl0 {cn : Cn} : FlatD cn [] [] := fun _ _ => rfl
section
variable {P : Program} {w : World} {K : PySem.W.Frag} {mg : Str → Option Value} {base : Heap} {cn : Cn} {x qual : Str} {params : Arguments} {body : List Stmt} {scope : Scope} {f : Addr} {fd : FuncData} {N ps : List Str} {k : Nat} {fb : LSt → Fl}
/-- a def without defaults -/
theorem fn0 {n p : Nat} (hK : K = cn.K) (F : FunD K x qual params body scope [] [] f fd) (S : FnScope N ps scope) (hb : L2.Binds K fd ps [])
    (hbody : ∀ (cdv : Value) (A : Around) (outer : List Env) (s : Shared) (H : Hp) (E : XK) (c : Ac), Ctx (cxOf (L2.CX P w) P w K mg base N qual scope f cdv A outer s H E) c (fun cls d _ H' => E cls d H') cn k →
      DSs (cxOf (L2.CX P w) P w K mg base N qual scope f cdv A outer s H E) c (fun cls d _ H' => E cls d H') body fb) (hn : N.length = n := by rfl) (hp : ps.length = p := by rfl) : FnR P w K mg base (L2.CX P w) (k + 1) f (spF cn (mOf n p fb)) := by
  subst hn hp
  exact fnr_of (dd := []) (dvs := []) (ds := []) (fnD_ok (cn := cn) F S fun cdv A outer s H E c hc hr => hbody cdv A outer s H E c ⟨by rw [hc]; exact hK, hc, hr, takes_of rfl rfl rfl rfl, rfl, S.nd, passes_of rfl⟩) rfl hb .nil fl0 fun xs g _ => by rw [List.append_nil]
theorem fo0 (hK : K = cn.K) (F : FunD K x qual params body scope [] [] f fd) (S : FnScope N ps scope)
    (hbody : ∀ (cdv : Value) (A : Around) (outer : List Env) (s : Shared) (H : Hp) (E : XK) (c : Ac), Ctx (cxOf (L2.CX P w) P w K mg base N qual scope f cdv A outer s H E) c (fun cls d _ H' => E cls d H') cn k →
      DSs (cxOf (L2.CX P w) P w K mg base N qual scope f cdv A outer s H E) c (fun cls d _ H' => E cls d H') body fb) {n p : Nat} (hn : N.length = n := by rfl) (hp : ps.length = p := by rfl) : FnOk P w K mg base (L2.CX P w) (k + 1) f fd ps (fun vs H Q E => vs.length = p ∧ spF cn (mOf n p fb) vs H Q E) := by
  subst hn hp
  exact fnD_ok (cn := cn) F S fun cdv A outer s H E c hc hr => hbody cdv A outer s H E c ⟨by rw [hc]; exact hK, hc, hr, takes_of rfl rfl rfl rfl, rfl, S.nd, passes_of rfl⟩
theorem in0 {n m p : Nat} (hK : K = cn.K) (F : FunD K x qual params body scope [] [] f fd) (S : FnScope N ps scope) (hb : L2.Binds K fd ps [])
    (hbody : ∀ (cdv : Value) (A : Around) (outer : List Env) (s : Shared) (H : Hp) (E : XK) (c : Ac), Ctx (cxOf (L2.CX P w) P w K mg base N qual scope f cdv A outer s H E) c (fun cls d _ H' => E cls d H') cn k →
      DSs (cxOf (L2.CX P w) P w K mg base N qual scope f cdv A outer s H E) c (fun cls d _ H' => E cls d H') body fb) (hn : N.length = m := by rfl) (hp : ps.length = p := by rfl) : FnR P w K mg base (L2.CX P w) (k + 1) f (spI cn n (mOfI m p fb)) := by
  subst hn hp
  exact fnr_ofI (dd := []) (dvs := []) (ds := []) (init_ok (cn := cn) F S fun cdv A outer s H E c hc hr => hbody cdv A outer s H E c ⟨by rw [hc]; exact hK, hc, hr, takes_of rfl rfl rfl rfl, rfl, S.nd, passes_of rfl⟩) rfl hb .nil fl0 fun xs g _ => by rw [List.append_nil]
end
end Dx

/-! Dx.Head: what the top has laid, told by plain tests of the written part: defs at any address, classes with slots. -/
namespace Dx
open PySem PySem.Spec PyProof.Rows L2

/-! ### the law -/
theorem law_fin {P : Program} {w : World} {K : PySem.W.Frag} {mg : Str → Option Value} {base : Heap} {k : Nat} {f : Addr} {fd : FuncData} {ps : List Str} {cn : Cn} {m : Fm} (F : FnOk P w K mg base (L2.CX P w) k f fd ps (fun vs H Q E => vs.length = 1 ∧ spF cn m vs H Q E)) :
    FnOk P w K mg base CX0 k f fd ps (fun vs H Q _ => vs.length = 1 ∧ spF cn m vs H Q fun _ _ _ => False) :=
  ⟨fun vs H Q E h => F.len vs H Q _ h, fun A outer s H args us vs Q E hr he hb hv hs => codeAny_mono (F.run A outer s H args us vs Q _ hr he hb hv hs) fun r s' q => by
    cases r with
    | ok fl => cases fl <;> exact q
    | error e => exact cx_false q⟩
open Classical in
noncomputable def noT (cn : Cn) (H : Hp) : Hp := fun b => if isT cn b then none else H b
theorem noT_sub {cn : Cn} {H : Hp} : Same (noT cn H) H := fun b u e => by
  unfold noT at e
  split at e
  · cases e
  · exact e
/-- the law, at a heap in which the tables are empty -/
theorem law_trueT {K : PySem.W.Frag} {cn : Cn} {m : Fm} (hK : cn.K = K) (plain : ∀ ns : List Int, ns.length ≤ 63 → ∃ g, m [.scr ns] ⟨none, none⟩ = .ok (.v (.bl true)) g) (H : Hp) (a : Addr) (ns : List Int) (hl : ns.length ≤ 63)
    (hT : ∀ P, isT cn P → H P = some (.tbl #[])) (hS : SqL K H a (ns.map V.int)) : [V.ref a].length = 1 ∧ spF cn m [.ref a] H (fun v _ => v = .bl true) fun _ _ _ => False := by
  have hS2 : SqL K (noT cn H) a (ns.map V.int) := by
    have at_ : ∀ o, H a = some o → (∀ ps, o ≠ .tbl ps) → noT cn H a = some o := fun o e ne => by
      unfold noT
      rw [if_neg (fun z => ne _ (Option.some.inj (e.symm.trans (hT a z))))]
      exact e
    rcases hS with (h | ⟨o, h⟩) | h
    · exact .inl (.inl (at_ _ h fun ps z => by cases z))
    · exact .inl (.inr ⟨o, at_ _ h fun ps z => by cases z⟩)
    · exact .inr h
  have hf : ∀ P, isT cn P → noT cn H P = none := fun P h => if_pos h
  refine ⟨rfl, noT cn H, ⟨0, 0, 0, 0, 0, 0, .none⟩, [.scr ns], ⟨none, none⟩, noT_sub, ⟨fun _ _ _ q => (nomatch q), fun _ _ q => (nomatch q), ⟨fun P q h => ?_, fun P h => ?_⟩⟩, .cons ⟨a, rfl, by rw [hK]; exact hS2⟩ .nil, ?_⟩
  · have h2 : isT cn P := .inl (by rw [h]; rfl)
    exact ⟨hf P h2, #[], hT P h2, trivial, fun pos cv z => by
      have z : codeAmong pos [] = some cv := z
      simp [codeAmong] at z⟩
  · exact ⟨hf P (.inr h), #[], hT P (.inr h), trivial⟩
  · obtain ⟨g, e⟩ := plain ns hl
    rw [e]
    exact fun v H' Hf' _ r => r
theorem law_true {K : PySem.W.Frag} {cn : Cn} {m : Fm} (hK : cn.K = K) (plain : ∀ ns : List Int, ns.length ≤ 63 → ∃ g, m [.scr ns] ⟨none, none⟩ = .ok (.v (.bl true)) g) (H : Hp) (a : Addr) (ns : List Int) (hl : ns.length ≤ 63) (hS : SqL K H a (ns.map V.int))
    (hn : ∀ P, ¬ isT cn P := by intro P h; rcases h with h | h <;> cases h) : [V.ref a].length = 1 ∧ spF cn m [.ref a] H (fun v _ => v = .bl true) fun _ _ _ => False :=
  law_trueT hK plain H a ns hl (fun P h => absurd h (hn P)) hS
end Dx

/-! Dx.Own: lists of the frame's own: append, read by place, stored by place. -/
namespace Dx
open PySem PySem.Spec PyProof.Rows L2

def ownL : Option Slot → Option (List D)
  | some (.own (.lst ds)) => some ds
  | _ => none
theorem ownL_eq {o : Option Slot} {ds : List D} (h : ownL o = some ds) : o = some (.own (.lst ds)) := by
  unfold ownL at h
  split at h
  · cases h
    rfl
  · cases h
def sApp (i : Nat) (fe : LSt → Res D) : LSt → Res D := fun l => match ownL (l.sl[i]?) with
  | some _ => (fe l).bind fun d l => (match ownL (l.sl[i]?) with
    | some ds => if ds.length < szL then .ok .non (l.put i (.own (.lst (ds ++ [d])))) else .bad
    | none => .bad)
  | none => .bad
/-- x[j] of an own list, which stays own -/
def sOwnIx (i : Nat) (fj : LSt → Res D) : LSt → Res D := fun l => match ownL (l.sl[i]?) with
  | some _ => (fj l).bind fun d l => (match ownL (l.sl[i]?) with
    | some ds => opt (ixD (.lst ds) d) l
    | none => .bad)
  | none => .bad
def atN (n : Nat) (i : Int) : Option Nat := if 0 ≤ i then (if i.toNat < n then some i.toNat else none) else if -(n : Int) ≤ i then some (i + n).toNat else none
theorem atN_ix {n : Nat} {i : Int} {k : Nat} (h : atN n i = some k) : ixN n i = some k := by
  unfold atN at h
  unfold ixN
  split at h
  · rename_i h1
    rw [if_pos h1]
    split at h
    · rename_i h2
      rw [if_pos (by omega)]
      exact h
    · cases h
  · rename_i h1
    rw [if_neg h1]
    split at h
    · rename_i h2
      rw [if_pos h2]
      exact h
    · cases h
/-- x[j] = e -/
def zOwnSet (i : Nat) (fj fe : LSt → Res D) : LSt → Fl := fun l => (fe l).toFl fun d l => (match ownL (l.sl[i]?) with
  | some _ => (fj l).toFl fun j l => (match ownL (l.sl[i]?), j with
    | some ds, .int n => (match atN ds.length n with
      | some k => .nx (l.put i (.own (.lst (ds.set k d))))
      | none => .bad)
    | _, _ => .bad)
  | none => .bad)
section
variable {X : Cx} {c : Ac} {W : WX} {x : Str} {np apos cpos pos pos' : Pos} {i : Nat} {e j : Expr} {fe fj : LSt → Res D}
theorem de_app (pv : PE X (.Name x np) (tVar i)) (he : DE X c W e fe) (hst : starEach [e] X.env = (false, eval e X.env) :: starEach [] X.env := by rfl)
    (hbase : attributeBase (.Name x np) "append" X.env (eval (.Name x np) X.env) = eval (.Name x np) X.env := by rfl)
    (hfew : ((backTo cpos (starEach [e] X.env)).all (fun x => !x.1) && (backToKw cpos (keywordEach [] X.env)).all (fun x => x.1.isSome)
      && decide (([e] : List Expr).length + ([] : List Keyword).length + (if ([] : List Keyword).isEmpty then 0 else 1) < 30)) = true := by rfl)
    (hline : (apos.endLine == cpos.line) = true := by rfl) :
    DE X c W (.Call (.Attribute (.Name x np) "append" apos) [e] [] cpos) (sApp i fe) :=
  ⟨(pe_bm PySem.F.plainAttrs_list PySem.F.slot_list_append PySem.F.type_list_append mt_append pv (pa_cons he.pe pa_nil hst) hbase hfew hline hst).imp' fun σ H Q ⟨Hf, l, R, h⟩ => by
    unfold sApp at h
    cases e1 : ownL (l.sl[i]?) with
    | none =>
      rw [e1] at h
      exact h.elim
    | some ds0 =>
      rw [e1] at h
      obtain ⟨a, o, ea, ha, rc, _⟩ := R.own (ownL_eq e1)
      obtain ⟨vs0, rfl, _⟩ := rc
      refine ⟨.ref a, ea, .inl ⟨rfl, vs0, SqL.of ha⟩, run_bind PD.mo R h fun d l1 v H1 Hf1 R1 s1 r1 h1 => ?_⟩
      cases e2 : ownL (l1.sl[i]?) with
      | none =>
        rw [e2] at h1
        exact h1.elim
      | some ds =>
        rw [e2] at h1
        have h1 : wpR (if ds.length < szL then .ok .non (l1.put i (.own (.lst (ds ++ [d])))) else .bad) (PD c σ Q Hf1) (PX c W σ Hf1) := h1
        split at h1
        · rename_i hz
          obtain ⟨a', o', ea', ha', rc', _⟩ := R1.own (ownL_eq e2)
          rw [ea] at ea'
          cases ea'
          obtain ⟨vs, rfl, rv⟩ := rc'
          refine ⟨a, vs, v, rfl, rfl, ha', by rw [← szL_eq, ← rv.length]; exact hz, ?_⟩
          exact h1 .non _ Hf1 (R1.write (ownL_eq e2) ea ⟨_, rfl, rv.append (.cons r1 .nil)⟩) (Same.refl _) rfl
        · exact h1.elim⟩
theorem de_ownIx (hK : X.K = c.K) (pv : PE X (.Name x np) (tVar i)) (hj : DE X c W j fj) (hs : PlainIx j) : DE X c W (.Subscript (.Name x np) j pos) (sOwnIx i fj) :=
  ⟨(pe_ix ix_list pv hj.pe hs).imp' fun σ H Q ⟨Hf, l, R, h⟩ => by
    unfold sOwnIx at h
    cases e1 : ownL (l.sl[i]?) with
    | none =>
      rw [e1] at h
      exact h.elim
    | some ds0 =>
      rw [e1] at h
      obtain ⟨a, o, ea, _⟩ := R.own (ownL_eq e1)
      refine ⟨.ref a, ea, run_bind PD.mo R h fun d l1 v H1 Hf1 R1 s1 r1 h1 => ?_⟩
      cases e2 : ownL (l1.sl[i]?) with
      | none =>
        rw [e2] at h1
        exact h1.elim
      | some ds =>
        rw [e2] at h1
        obtain ⟨a', o', ea', ha', rc', _⟩ := R1.own (ownL_eq e2)
        rw [ea] at ea'
        cases ea'
        obtain ⟨vs, rfl, rv⟩ := rc'
        cases d with
        | int n =>
          have h1 : wpR (opt (atD ds n) l1) (PD c σ Q Hf1) (PX c W σ Hf1) := h1
          cases e3 : atD ds n with
          | none =>
            rw [e3] at h1
            exact h1.elim
          | some y =>
            rw [e3] at h1
            obtain ⟨w, q1, q2⟩ := rv.atD e3
            exact ⟨a, vs, n, w, rfl, r1, SqL.of ha', q1, PD.flat R1 h1 q2⟩
        | _ => exact h1.elim⟩
theorem ds_ownSet (pv : PE X (.Name x np) (tVar i)) (hj : DE X c W j fj) (he : DE X c W e fe)
    (ha : ∀ v, assign (.Subscript (.Name x np) j pos') X.env v = (do
      let ov ← holding [v] (eval (.Name x np) X.env)
      let iv ← holding [v, ov] (eval j X.env)
      standAt pos'
      holding [v, ov, iv] (setItem ov iv v)
      release [v, ov, iv] []) := by intros; rfl)
    (hs : swapsWithSole [.Subscript (.Name x np) j pos'] e pos.line X.env = pure false := by rfl) (hw : swappedStores [.Subscript (.Name x np) j pos'] e X.env = pure none := by rfl)
    (h1 : (assignEach [.Subscript (.Name x np) j pos'] X.env).map (·.2) = [assign (.Subscript (.Name x np) j pos') X.env] := by rfl) :
    DS X c W (.Assign [.Subscript (.Name x np) j pos'] e pos) (zOwnSet i fj fe) :=
  ⟨(ps_asg he.pe (pg_sub pv hj.pe set_list ha) hs hw h1).imp' fun D σ H ⟨Hf, l, R, h⟩ => to_bind R h fun d l1 v H1 Hf1 R1 s1 r1 h1 => by
    cases e1 : ownL (l1.sl[i]?) with
    | none =>
      rw [e1] at h1
      exact h1.elim
    | some ds0 =>
      rw [e1] at h1
      obtain ⟨a, o, ea, _⟩ := R1.own (ownL_eq e1)
      refine ⟨.ref a, ea, to_bind R1 h1 fun jd l2 jv H2 Hf2 R2 s2 r2 h2 => ?_⟩
      cases e2 : ownL (l2.sl[i]?) with
      | none =>
        rw [e2] at h2
        exact h2.elim
      | some ds =>
        rw [e2] at h2
        cases jd with
        | int n =>
          have h2 : wpF c W D Hf2 (match atN ds.length n with
            | some k => .nx (l2.put i (.own (.lst (ds.set k d))))
            | none => .bad) := h2
          cases e3 : atN ds.length n with
          | none =>
            rw [e3] at h2
            exact h2.elim
          | some k =>
            rw [e3] at h2
            obtain ⟨a', o', ea', ha', rc', _⟩ := R2.own (ownL_eq e2)
            rw [ea] at ea'
            cases ea'
            obtain ⟨vs, rfl, rv⟩ := rc'
            refine ⟨a, vs, n, k, rfl, r2, ha', by rw [← rv.length]; exact atN_ix e3, ?_⟩
            exact h2 σ _ Hf2 (R2.write (ownL_eq e2) ea ⟨_, rfl, rv.set (r1.mono s2) k⟩) (Same.refl _)
        | _ => exact h2.elim⟩
end
end Dx

/-! Dx.Isi: isinstance with an own class (with slots). -/
namespace Dx
open PySem PySem.Spec PyProof.Rows L2

/-- which of the classes stand under the class at C; what is of a kit type does not -/
structure IsiOk (cn : Cn) (C : Addr) (tb : Nat → Option Bool) : Prop where
  own : ∀ n b, tb n = some b → SlX.SCls cn.K (cn.cA n) ∧ SlX.SIsi cn.K (cn.cA n) ∧ PySem.W.kitOne cn.K (.ref (cn.cA n)) (.ref C) = some b
  kit : ∀ t ∈ [0, 1, 2, 3, 4, 5, 6], PySem.W.kitOne cn.K (.type (kindN t)) (.ref C) = some false
def isoD (tb : Nat → Option Bool) : D → Option D
  | .ins n _ => (tb n).map .bl
  | d => (kindD d).map fun _ => .bl false
section
variable {X : Cx} {c : Ac} {W : WX} {e : Expr} {fe : LSt → Res D} {p pt pos : Pos} {y : Str} {C : Addr} {tb : Nat → Option Bool}
theorem de_isiO (hK : X.K = c.K) (ok : IsiOk c.toCn C tb) (hg : Gl X "isinstance") (hm : X.mg "isinstance" = none) (he : DE X c W e fe) (hgt : Gl X y) (hmt : X.mg y = some (.ref C))
    (hd : (y == ("__debug__" : Str)) = false := by decide) (hs : starEach (e :: [.Name y pt]) X.env = (false, eval e X.env) :: starEach [.Name y pt] X.env := by rfl) (hs2 : starEach [.Name y pt] X.env = [(false, eval (.Name y pt) X.env)] := by rfl)
    (hpl : (backTo pos (starEach [.Name y pt] X.env)).any (·.1) = false := by rfl) : DE X c W (.Call (.Name "isinstance" p) [e, .Name y pt] [] pos) (sUn (isoD tb) fe) :=
  ⟨(pe_callB (call_isi2.or (SlX.call_isiSl (u := .ref C))) hg hm (by rfl) (pa_cons he.pe (pa_cons (pe_glob hgt hmt (v := .ref C) rfl hd) pa_nil hs2) hs) (by decide) (by decide) hs hpl).imp' fun _ _ _ ⟨Hf, l, R, h⟩ => run_bind PD.mo R h fun d l1 v H1 Hf1 R1 s1 r1 h1 => by
    have kit : ∀ n, kindD d = some n → isoD tb d = some (.bl false) → rIsi2 X.K [v, .ref C] H1 _ := fun n ek e2 => by
      rw [e2] at h1
      refine ⟨v, .ref C, .type (kindN n), .ref C, false, rfl, .own C, ?_, ?_, h1 _ H1 Hf1 R1 (Same.refl _) rfl⟩
      · rw [hK]
        exact kind_ty ek R1.sub r1
      · rw [hK]
        exact ok.kit n (kind_lt ek)
    cases d with
    | ins n fs =>
      have h1 : wpR (opt ((tb n).map .bl) l1) (PD c _ _ Hf1) (PX c W _ Hf1) := h1
      cases e1 : tb n with
      | none =>
        rw [e1] at h1
        exact h1.elim
      | some b =>
        rw [e1] at h1
        obtain ⟨a, dx, vs, rfl, ha, hdx, rv⟩ := r1
        obtain ⟨k1, k2, k3⟩ := ok.own n b e1
        refine .inr ⟨a, c.cA n, dx, vs.map some, .ref C, b, rfl, rfl, fun w hw => hw, .inr ⟨R1.sub _ _ ha, R1.sub _ _ hdx⟩, ?_, ?_, ?_, h1 _ H1 Hf1 R1 (Same.refl _) rfl⟩
        · rw [hK]
          exact k1
        · rw [hK]
          exact k2
        · rw [hK]
          exact k3
    | non => exact .inl (kit _ rfl rfl)
    | bl _ => exact .inl (kit _ rfl rfl)
    | int _ => exact .inl (kit _ rfl rfl)
    | str _ => exact .inl (kit _ rfl rfl)
    | tup _ => exact .inl (kit _ rfl rfl)
    | lst _ => exact .inl (kit _ rfl rfl)
    | dK _ _ => exact .inl (kit _ rfl rfl)
    | dT _ _ => exact .inl (kit _ rfl rfl)
    | _ => exact h1.elim⟩
end
theorem e_isi {X : Cx} {c : Ac} {W : WX} {cn : Cn} {k : Nat} {e : Expr} {fe : LSt → Res D} {p pt pos : Pos} {y : Str} {tb : Nat → Option Bool} (Z : Ctx X c W cn k) (J : ∃ C, X.mg y = some (.ref C) ∧ IsiOk cn C tb) (hm : X.mg "isinstance" = none) (he : DE X c W e fe)
    (hg : Gl X "isinstance" := by rfl) (hgt : Gl X y := by rfl) (hd : (y == ("__debug__" : Str)) = false := by decide) (hs : starEach (e :: [.Name y pt]) X.env = (false, eval e X.env) :: starEach [.Name y pt] X.env := by rfl) (hs2 : starEach [.Name y pt] X.env = [(false, eval (.Name y pt) X.env)] := by rfl)
    (hpl : (backTo pos (starEach [.Name y pt] X.env)).any (·.1) = false := by rfl) : DE X c W (.Call (.Name "isinstance" p) [e, .Name y pt] [] pos) (sUn (isoD tb) fe) := by
  obtain ⟨C, h1, h2⟩ := J
  rw [← Z.hc] at h2
  exact de_isiO Z.hK h2 hg hm he hgt h1 hd hs hs2 hpl
/-- the facts, by tests -/
theorem isB_ok {K : PySem.W.Frag} {A C : Addr} {b : Bool} (h : isB K A C b = true) : SlX.SIsi K A ∧ PySem.W.kitOne K (.ref A) (.ref C) = some b := by
  unfold isB isB.sclT at h
  simp only [Bool.and_eq_true, decide_eq_true_eq] at h
  exact ⟨⟨h.1.1.1.1, h.1.1.1.2, h.1.1.2, h.1.2⟩, h.2⟩
theorem ikB_ok {K : PySem.W.Frag} {C : Addr} (h : ikB K C = true) : ∀ t ∈ [0, 1, 2, 3, 4, 5, 6], PySem.W.kitOne K (.type (kindN t)) (.ref C) = some false := fun t ht => of_decide_eq_true (List.all_eq_true.mp h t ht)
end Dx

/-! Dx.Slc: slices. -/
namespace Dx
open PySem PySem.Spec PyProof.Rows L2

theorem _root_.L2.PO.imp' {X : Cx} {e : Option Expr} {t t' : TO} (p : PO X e t) (h : ∀ σ H Q, t' σ H Q → t σ H Q) : PO X e t' := ⟨fun pins s σ H Q I q => p.run pins s σ H Q I (h σ H Q q)⟩
def PP (c : Ac) (σ : L2.St) (Q : Option Int → Hp → Prop) (Hf : Hp) : Option Int → LSt → Prop := fun o l' => ∀ H' Hf', REnv c Hf' σ H' l' → Same Hf Hf' → Q o H'
def tP (c : Ac) (W : WX) (f : LSt → Res (Option Int)) : TO := fun σ H Q => ∃ Hf l, REnv c Hf σ H l ∧ wpR (f l) (PP c σ Q Hf) (PX c W σ Hf)
structure DP (X : Cx) (c : Ac) (W : WX) (e : Option Expr) (f : LSt → Res (Option Int)) : Prop where po : PO X e (tP c W f)
theorem PP.mo {c : Ac} {σ : L2.St} {Q : Option Int → Hp → Prop} : Mono (PP c σ Q) := fun _ _ s _ _ h H' Hf' R s' => h H' Hf' R (s.trans s')
def sNoP : LSt → Res (Option Int) := fun l => .ok none l
def intO : D → Option (Option Int)
  | .int i => some (some i)
  | _ => none
def sPt (a : LSt → Res D) : LSt → Res (Option Int) := fun l => (a l).bind fun d l => opt (intO d) l
def cutD {α : Type} (xs : List α) (lo hi : Option Int) : List α := (xs.drop (HT.sIx xs.length 0 lo)).take (HT.sIx xs.length xs.length hi - HT.sIx xs.length 0 lo)
def slD (d : D) (lo hi : Option Int) : Option D := match d with
  | .lst ds => some (.lst (cutD ds lo hi))
  | .tup ds => some (.tup (cutD ds lo hi))
  | _ => none
def sSl (a : LSt → Res D) (p q : LSt → Res (Option Int)) : LSt → Res D := fun l => (a l).bind fun d l => (p l).bind fun lo l => (q l).bind fun hi l => opt (slD d lo hi) l
def rSlA (K : PySem.W.Frag) : V → Option Int → Option Int → Hp → VK → Prop := fun x lo hi H Q => rSlL K x lo hi H Q ∨ L2.rSlA K x lo hi H Q
section
variable {X : Cx} {c : Ac} {W : WX} {e a : Expr} {lo hi : Option Expr} {fa : LSt → Res D} {p q : LSt → Res (Option Int)} {p2 pos : Pos} {β : Type} {P : Hp → β → LSt → Prop} {Hf H : Hp} {σ : L2.St} {l : LSt}
theorem run_bindP {f : LSt → Res (Option Int)} {k : Option Int → LSt → Res β} {Q : Option Int → Hp → Prop} (mo : Mono P) (R : REnv c Hf σ H l) (h : wpR ((f l).bind k) (P Hf) (PX c W σ Hf))
    (hk : ∀ d l1 H1 Hf1, REnv c Hf1 σ H1 l1 → Same Hf Hf1 → wpR (k d l1) (P Hf1) (PX c W σ Hf1) → Q d H1) : tP c W f σ H Q := by
  refine ⟨Hf, l, R, ?_⟩
  cases e : f l with
  | ok d l1 =>
    rw [e] at h
    exact fun H1 Hf1 R1 s1 => hk d l1 H1 Hf1 R1 s1 (wpR.mono mo s1 h)
  | ex x l1 =>
    rw [e] at h
    exact h
  | bad =>
    rw [e] at h
    exact h
theorem dp_none : DP X c W none sNoP := ⟨po_none.imp' fun σ H Q ⟨Hf, l, R, h⟩ => h H Hf R (Same.refl _)⟩
theorem dp_some (he : DE X c W e fa) : DP X c W (some e) (sPt fa) :=
  ⟨(po_some he.pe).imp' fun σ H Q ⟨Hf, l, R, h⟩ => run_bind PP.mo R h fun d l1 v H1 Hf1 R1 s1 r1 h1 => by
    cases d with
    | int i => exact ⟨i, r1, h1 H1 Hf1 R1 (Same.refl _)⟩
    | _ => exact h1.elim⟩
theorem sl_any : SlR X (Dx.rSlA X.K) := by
  intro pins s σ H x v vl vu lo hi sl Q I rx hs pl pu h
  rcases h with h | h
  · exact sl_list pins s σ H x v vl vu lo hi sl Q I rx hs pl pu h
  · exact L2.sl_tupA pins s σ H x v vl vu lo hi sl Q I rx hs pl pu h
theorem de_sl (hK : X.K = c.K) (ha : DE X c W a fa) (hp : DP X c W lo p) (hq : DP X c W hi q) : DE X c W (.Subscript a (.Slice lo hi none p2) pos) (sSl fa p q) :=
  ⟨(pe_slice sl_any ha.pe hp.po hq.po).imp' fun σ H Q ⟨Hf, l, R, h⟩ => run_bind PD.mo R h fun d l1 v H1 Hf1 R1 s1 r1 h1 => run_bindP PD.mo R1 h1 fun lo l2 H2 Hf2 R2 s2 h2 => run_bindP PD.mo R2 h2 fun hi l3 H3 Hf3 R3 s3 h3 => by
    have r3 := r1.mono (s2.trans s3)
    cases d with
    | lst ds =>
      obtain ⟨a, vs, rfl, h, t⟩ := r3
      have h3 : PD c σ Q Hf3 (.lst (cutD ds lo hi)) l3 := h3
      refine .inl ⟨a, vs, rfl, SqL.of (R3.sub _ _ h), fun p n => h3.new R3 n (RVal.lstNew (R3.free n) ?_)⟩
      unfold cutD cutV
      rw [t.length]
      exact (t.drop _).take _
    | tup ds =>
      obtain ⟨a, vs, rfl, h, t⟩ := r3
      have h3 : PD c σ Q Hf3 (.tup (cutD ds lo hi)) l3 := h3
      refine .inr ⟨a, vs, rfl, by rw [hK]; exact sameT R3.sub h, fun hw => ?_, fun hw p n => h3.new R3 n (RVal.tupNew (R3.free n) ?_)⟩
      · have e : cutD ds lo hi = ds := by
          unfold cutD
          rw [t.length, hw.1, hw.2]
          rw [List.drop_zero, Nat.sub_zero, ← t.length, List.take_length]
        rw [e] at h3
        exact h3 _ _ Hf3 R3 (Same.refl _) ⟨a, vs, rfl, h, t⟩
      · unfold cutD cutV
        rw [t.length]
        exact (t.drop _).take _
    | _ => exact h3.elim⟩
end
end Dx

/-! Dx.Blt2: more built-in functions. -/
namespace Dx
open PySem PySem.Spec PyProof.Rows L2

def intsD : List D → Option (List Int)
  | [] => some []
  | .int i :: r => (intsD r).map (i :: ·)
  | _ => none
theorem intsD_get {cn : Cn} {ad : Ad} {H : Hp} : ∀ {ds : List D} {ns : List Int} {vs : List V}, intsD ds = some ns → RVals cn ad H ds vs → vs = ns.map V.int
  | [], ns, vs, h, r => by
    cases h
    cases (show _ = [] from r)
    rfl
  | .int b :: ds, ns, vs, h, r => by
    have h' : (intsD ds).map (b :: ·) = some ns := h
    rw [Option.map_eq_some_iff] at h'
    obtain ⟨ns', e1, e2⟩ := h'
    subst e2
    obtain ⟨v, r', e, q, t⟩ := r
    subst e
    cases q
    rw [intsD_get e1 t]
    rfl
def sumD : List D → Option D
  | [.lst ds] => (intsD ds).map fun ns => .int ns.sum
  | _ => none
section
variable {X : Cx} {c : Ac} {W : WX} {cn : Cn} {k : Nat} {a : Expr} {fa : LSt → Res D} {p pos : Pos}
theorem ok_sum (hK : X.K = c.K) : BltOk c (rSum X.K) sumD := by
  intro Hf H σ l ds d vs Q R r e q
  unfold sumD at e
  split at e
  · rw [Option.map_eq_some_iff] at e
    obtain ⟨ns, e1, e2⟩ := e
    subst e2
    obtain ⟨v, rfl, a, us, rfl, h, t⟩ := rvals1 r
    have := intsD_get e1 t
    subst this
    exact ⟨a, ns, rfl, SqL.of (R.sub _ _ h), q.flat R rfl⟩
  · cases e
theorem e_sum (Z : Ctx X c W cn k) (hm : X.mg "sum" = none) (ha : DE X c W a fa) (hg : Gl X "sum" := by rfl) (he : starEach [a] X.env = (false, eval a X.env) :: starEach [] X.env := by rfl) : DE X c W (.Call (.Name "sum" p) [a] [] pos) (sBlt sumD (sCons fa sNil)) :=
  de_blt (cr_sum Z.calm) (ok_sum Z.hK) hg hm (by rfl) (da_cons ha da_nil he) (by decide) (by decide) he
theorem e_any (Z : Ctx X c W cn k) (hm : X.mg "any" = none) (ha : DE X c W a fa) (hg : Gl X "any" := by rfl) (he : starEach [a] X.env = (false, eval a X.env) :: starEach [] X.env := by rfl) : DE X c W (.Call (.Name "any" p) [a] [] pos) (sBlt anyD (sCons fa sNil)) :=
  de_blt (cr_any Z.calm) (ok_any Z.hK) hg hm (by rfl) (da_cons ha da_nil he) (by decide) (by decide) he
end
end Dx

/-! Dx.Kw: defaults, keyword-only parameters, calls with keywords. -/
namespace Dx
open PySem PySem.Spec PyProof.Rows L2

/-- f(.., k = v, ..): n values, keywords ks -/
def FnRK (P : Program) (w : World) (K : PySem.W.Frag) (mg : Str → Option Value) (base : Heap) (CX : CXT) (k : Nat) (f : Addr) (n : Nat) (ks : List Str) (sp : Sp) : Prop :=
  ∀ (A : Around) (outer : List Env) (s : Shared) (H : Hp) (us ws : List Value) (vs zs : List V) (Q : VK) (E : XK), Room k A → Env0 P w K mg base A outer s H → Vals vs us → Vals zs ws → vs.length = n → zs.length = ks.length →
    sp (vs ++ zs) H Q E → codeAny (model P w) A (.call (.ref f) ⟨us, ks.zip ws⟩) (CR CX outer P w H s Q E) s
section
variable {P : Program} {w : World} {K : PySem.W.Frag} {mg : Str → Option Value} {base : Heap} {CX : CXT} {j k n : Nat} {f : Addr} {fd : FuncData} {ps ks : List Str} {sp sp' : Sp} {g : List Value → List Value → List Value}
theorem FnRK.mono (F : FnRK P w K mg base CX j f n ks sp) (h : j ≤ k) : FnRK P w K mg base CX k f n ks sp := fun A outer s H us ws vs zs Q E hr => F A outer s H us ws vs zs Q E (hr.mono h)
theorem fnrk_of (F : FnOk P w K mg base CX k f fd ps sp') (hb : KBn K fd ps n ks g (fun vs zs => vs ++ zs)) (hs : ∀ vs H Q E, vs.length = n + ks.length → sp vs H Q E → sp' vs H Q E) : FnRK P w K mg base CX k f n ks sp := by
  intro A outer s H us ws vs zs Q E hr e0 r1 r2 l1 l2 h
  have KX : K.In s.heap := e0.mod.kin.keeps fun b o e => (e0.bs b o e).1
  refine F.run A outer s H ⟨us, ks.zip ws⟩ (g us ws) (vs ++ zs) Q E hr e0 (hb.to s us ws KX ?_ ?_) (hb.rel r1 r2) (hs _ _ _ _ ?_ h)
  · rw [← r1.length, l1]
  · rw [← r2.length, l2]
  · rw [List.length_append, l1, l2]
end

/-! ### keywords -/
structure DK (X : Cx) (c : Ac) (W : WX) (kws : List Keyword) (f : LSt → Res (List D)) : Prop where
  pk : PK X kws (tA c W f)
def sCallK (n j : Nat) (m : Fm) (fa fk : LSt → Res (List D)) : LSt → Res D := fun l => (fa l).bind fun ds l => (fk l).bind fun es l => if ds.length = n ∧ es.length = j then frRes l (m (ds ++ es) l.g) else .bad
section
variable {X : Cx} {c : Ac} {W : WX} {e : Expr} {es : List Expr} {kws : List Keyword} {pos p kpos : Pos} {fa fk : LSt → Res (List D)} {fe : LSt → Res D} {m mi : Fm} {k n : Nat} {f : Addr} {x nm : Str} {ks : List Str}
theorem _root_.L2.PK.imp' {X : Cx} {e : List Keyword} {t t' : TA} (p : PK X e t) (h : ∀ σ H Q, t' σ H Q → t σ H Q) : PK X e t' := ⟨fun ps pins s σ H Q I q => p.run ps pins s σ H Q I (h σ H Q q)⟩
theorem dk_nil : DK X c W [] sNil := ⟨pk_nil.imp' fun _ _ _ ⟨Hf, l, R, h⟩ => h [] _ Hf R (Same.refl _) .nil⟩
theorem dk_cons (ha : DE X c W e fe) (hr : DK X c W kws fk) : DK X c W (⟨some nm, e, kpos⟩ :: kws) (sCons fe fk) :=
  ⟨(pk_cons ha.pe hr.pk).imp' fun _ _ _ ⟨Hf, l, R, h⟩ => run_bind PA'.mo R h fun d l1 v H1 Hf1 R1 s1 r1 h1 => run_bindA PA'.mo R1 h1 fun ds l2 vs H2 Hf2 R2 s2 r2 h2 => h2 (v :: vs) H2 Hf2 R2 (Same.refl _) (.cons (r1.mono s2) r2)⟩
theorem kw_run {σ : L2.St} {H : Hp} {Q : VK} (h : tD c W (sCallK n ks.length m fa fk) σ H Q) :
    tA c W fa σ H fun vs H1 => tA c W fk σ H1 fun zs H2 => vs.length = n ∧ zs.length = ks.length ∧ spF c.toCn m (vs ++ zs) H2 (LkP Q) (WE W σ) := by
  obtain ⟨Hf, l, R, h⟩ := h
  refine run_bindA PD.mo R h fun ds l1 vs H1 Hf1 R1 s1 r1 h1 => run_bindA PD.mo R1 h1 fun es l2 zs H2 Hf2 R2 s2 r2 h2 => ?_
  split at h2
  · rename_i hz
    exact ⟨r1.length.symm.trans hz.1, r2.length.symm.trans hz.2, spF_res R2 ((RVals.mono s2 _ _ r1).append r2) h2⟩
  · exact h2.elim
theorem de_callK (F : FnRK X.prog X.w X.K X.mg X.base (L2.CX X.prog X.w) k f n ks (spF c.toCn m)) (hr : Room k X.A) (tk : Takes X W) (hg : Gl X x) (hm : X.mg x = some (.ref f)) (hk : PySem.W.keepIn X.K (.ref f) = true)
    (ha : DA X c W (e :: es) fa) (hkw : DK X c W kws fk) (hdb : (x == ("__debug__" : Str)) = false := by decide) (he : starEach (e :: es) X.env = (false, eval e X.env) :: starEach es X.env := by rfl)
    (hall : (backToKw pos (keywordEach kws X.env)).all (·.1.isSome) = true := by rfl) (hks : (backToKw pos (keywordEach kws X.env)).filterMap (·.1) = ks := by rfl)
    (hpl : ((backTo pos (starEach (e :: es) X.env)).any (·.1) || (backToKw pos (keywordEach kws X.env)).any (·.1.isNone)) = false := by rfl) :
    DE X c W (.Call (.Name x p) (e :: es) kws pos) (sCallK n ks.length m fa fk) := by
  refine ⟨(pe_fz (t := fun σ H Q => tA c W fa σ H fun vs H1 => tA c W fk σ H1 fun zs H2 => vs.length = n ∧ zs.length = ks.length ∧ spF c.toCn m (vs ++ zs) H2 Q (WE W σ)) ⟨fun pins s σ H Q I h => wpAny_Call_Name_kw (ld_glob I hg hm ?_ hdb)⟩).imp' fun _ _ _ h => kw_run h⟩
  refine PySem.W.callWith_KW (h₀ := X.base) I.ok.mod.kin hk hall (thn (ha.pa.run pos pins s σ H _ I h) fun us s1 ⟨vs, H1, I1, r, q⟩ => thn (hkw.pk.run pos pins s1 σ H1 _ I1 q) fun ws s2 ⟨zs, H2, I2, rz, l1, l2, q2⟩ => ⟨I2.kIn, ?_⟩) hpl he
  rw [hks]
  refine wpAny_call (codeAny_mono (F X.A X.stack s2 H2 us ws vs zs Q _ hr I2.env0 r rz l1 l2 q2) fun r s' hq => ?_)
  cases r with
  | error e => exact passAt tk σ pins H2 s2 e s' I2 hq
  | ok fl =>
    cases fl with
    | ret u => exact I2.after hq
    | next => exact hq.elim
    | brk => exact hq.elim
    | cont => exact hq.elim
/-- C(.., k = v, ..) -/
theorem mkw_run {cl : Nat} {σ : L2.St} {H : Hp} {Q : VK} (h : tD c W (sCallK n ks.length (mkC cl mi) fa fk) σ H Q) :
    tA c W fa σ H fun vs H1 => tA c W fk σ H1 fun zs H2 => vs.length = n ∧ zs.length = ks.length ∧ ∀ x dx, H2 x = none → H2 dx = none → dx ≠ x →
      spI c.toCn cl mi (.ref x :: (vs ++ zs)) (upd (upd H2 dx (.own x)) x (.ins (c.cA cl) dx [])) (fun v H3 => v = .non ∧ Q (.ref x) H3) (WE W σ) := by
  obtain ⟨Hf, l, R, h⟩ := h
  refine run_bindA PD.mo R h fun ds l1 vs H1 Hf1 R1 s1 r1 h1 => run_bindA PD.mo R1 h1 fun es l2 zs H2 Hf2 R2 s2 r2 h2 => ?_
  split at h2
  · rename_i hz
    exact ⟨r1.length.symm.trans hz.1, r2.length.symm.trans hz.2, fun x dx n1 n2 n3 => make_res R2 ((RVals.mono s2 _ _ r1).append r2) n1 n2 n3 h2⟩
  · exact h2.elim
theorem de_makeK {cl : Nat} (M : Mk X.K (c.cA cl) f) (F : FnRK X.prog X.w X.K X.mg X.base (L2.CX X.prog X.w) k f (n + 1) ks (spI c.toCn cl mi)) (hr : Room (k + 1) X.A) (tk : Takes X W) (hg : Gl X x) (hm : X.mg x = some (.ref (c.cA cl)))
    (ha : DA X c W (e :: es) fa) (hkw : DK X c W kws fk) (hdb : (x == ("__debug__" : Str)) = false := by decide) (he : starEach (e :: es) X.env = (false, eval e X.env) :: starEach es X.env := by rfl)
    (hall : (backToKw pos (keywordEach kws X.env)).all (·.1.isSome) = true := by rfl) (hks : (backToKw pos (keywordEach kws X.env)).filterMap (·.1) = ks := by rfl)
    (hpl : ((backTo pos (starEach (e :: es) X.env)).any (·.1) || (backToKw pos (keywordEach kws X.env)).any (·.1.isNone)) = false := by rfl) :
    DE X c W (.Call (.Name x p) (e :: es) kws pos) (sCallK n ks.length (mkC cl mi) fa fk) := by
  refine ⟨⟨fun pins s σ H Q I h => wpAny_Call_Name_kw (ld_glob I hg hm ?_ hdb)⟩⟩
  refine PySem.W.callWith_KW (h₀ := X.base) I.ok.mod.kin M.kp hall (thn (ha.pa.run pos pins s σ H _ I (mkw_run h)) fun us s1 ⟨vs, H1, I1, r, q⟩ => thn (hkw.pk.run pos pins s1 σ H1 _ I1 q) fun ws s2 ⟨zs, H2, I2, rz, l1, l2, q2⟩ => ⟨I2.kIn, ?_⟩) hpl he
  rw [hks]
  have hq := q2 (s2.heap.objs.size + 1) s2.heap.objs.size (I2.hok.fresh (Nat.le_succ _)) (I2.hok.fresh (Nat.le_refl _)) (Nat.ne_of_lt (Nat.lt_succ_self _))
  have J := Inv.made (C := c.cA cl) I2
  have r1 : Vals (V.ref (s2.heap.objs.size + 1) :: vs) (Value.ref (s2.heap.objs.size + 1) :: us) := .cons rfl r
  refine wpAny_call (make_map (f := f) I2.kIn M.makes M.init (beq_iff_eq.mp M.fn) (codeAny_mono (F _ X.stack _ _ _ ws _ zs _ _ (hr.make (c.cA cl) us (ks.zip ws)) (J.env0.make (c.cA cl) us (ks.zip ws)) r1 rz (congrArg Nat.succ l1) l2 hq) fun r s' hq' => ?_))
  cases r with
  | error e => exact passAt tk σ pins _ _ e s' J hq'
  | ok fl =>
    cases fl with
    | ret u =>
      obtain ⟨v, H', J3, rv, ev, q3⟩ := J.after hq'
      subst ev
      exact ⟨rv, V.ref (s2.heap.objs.size + 1), H', J3, rfl, q3⟩
    | next => exact hq'.elim
    | brk => exact hq'.elim
    | cont => exact hq'.elim
end

/-! ### what the text gives -/
/-- a def, called by its name with n values and keywords ks -/
structure CalK (P : Program) (w : World) (K : PySem.W.Frag) (mg : Str → Option Value) (base : Heap) (cn : Cn) (k : Nat) (x : Str) (n : Nat) (ks : List Str) (m : Fm) : Prop where
  ex : ∃ f, FnRK P w K mg base (L2.CX P w) k f n ks (spF cn m) ∧ mg x = some (.ref f) ∧ PySem.W.keepIn K (.ref f) = true
structure MkrK (P : Program) (w : World) (K : PySem.W.Frag) (mg : Str → Option Value) (base : Heap) (cn : Cn) (k : Nat) (x : Str) (n : Nat) (ks : List Str) (cl : Nat) (m : Fm) : Prop where
  ex : ∃ f, Mk K (cn.cA cl) f ∧ FnRK P w K mg base (L2.CX P w) k f (n + 1) ks (spI cn cl m) ∧ mg x = some (.ref (cn.cA cl))
section
variable {X : Cx} {c : Ac} {W : WX} {cn : Cn} {k j n : Nat} {e : Expr} {es : List Expr} {kws : List Keyword} {pos p : Pos} {fa fk : LSt → Res (List D)} {m : Fm} {x : Str} {ks : List Str}
theorem e_callK (Z : Ctx X c W cn k) (C : CalK X.prog X.w X.K X.mg X.base cn j x n ks m) (hj : j ≤ k) (ha : DA X c W (e :: es) fa) (hkw : DK X c W kws fk) (hg : Gl X x := by rfl) (hdb : (x == ("__debug__" : Str)) = false := by decide)
    (he : starEach (e :: es) X.env = (false, eval e X.env) :: starEach es X.env := by rfl) (hall : (backToKw pos (keywordEach kws X.env)).all (·.1.isSome) = true := by rfl) (hks : (backToKw pos (keywordEach kws X.env)).filterMap (·.1) = ks := by rfl)
    (hpl : ((backTo pos (starEach (e :: es) X.env)).any (·.1) || (backToKw pos (keywordEach kws X.env)).any (·.1.isNone)) = false := by rfl) : DE X c W (.Call (.Name x p) (e :: es) kws pos) (sCallK n ks.length m fa fk) := by
  obtain ⟨f, F, h1, h2⟩ := C.ex
  rw [← Z.hc] at F
  exact de_callK (F.mono hj) Z.hr Z.tk hg h1 h2 ha hkw hdb he hall hks hpl
theorem e_makeK {cl : Nat} (Z : Ctx X c W cn k) (C : MkrK X.prog X.w X.K X.mg X.base cn j x n ks cl m) (hj : j + 1 ≤ k) (ha : DA X c W (e :: es) fa) (hkw : DK X c W kws fk) (hg : Gl X x := by rfl) (hdb : (x == ("__debug__" : Str)) = false := by decide)
    (he : starEach (e :: es) X.env = (false, eval e X.env) :: starEach es X.env := by rfl) (hall : (backToKw pos (keywordEach kws X.env)).all (·.1.isSome) = true := by rfl) (hks : (backToKw pos (keywordEach kws X.env)).filterMap (·.1) = ks := by rfl)
    (hpl : ((backTo pos (starEach (e :: es) X.env)).any (·.1) || (backToKw pos (keywordEach kws X.env)).any (·.1.isNone)) = false := by rfl) : DE X c W (.Call (.Name x p) (e :: es) kws pos) (sCallK n ks.length (mkC cl m) fa fk) := by
  obtain ⟨f, M, F, h1⟩ := C.ex
  rw [← Z.hc] at F M h1
  exact de_makeK M F (Z.hr.mono hj) Z.tk hg h1 ha hkw hdb he hall hks hpl
end
/-- the last parameter's default -/
def dfl (m : Fm) (d : D) : Fm := fun ds g => m (ds ++ [d]) g
/-- data that are the same in each heap -/
def flt : D → Option V
  | .non => some .non
  | .bl b => some (.bl b)
  | .int i => some (.int i)
  | .str x => some (.str x)
  | _ => none
theorem flt_ok {cn : Cn} {d : D} {v : V} (h : flt d = some v) : FlatD cn [d] [v] := fun ad Hf => by
  refine .cons ?_ .nil
  cases d <;> simp only [flt, reduceCtorEq, Option.some.injEq] at h <;> exact h.symm
section
variable {P : Program} {w : World} {K : PySem.W.Frag} {mg : Str → Option Value} {base : Heap} {cn : Cn} {x qual : Str} {params : Arguments} {body : List Stmt} {scope : Scope} {f : Addr} {fd : FuncData} {N ps : List Str} {k : Nat} {fb : LSt → Fl} {dvs : List V} {kws : List (Str × V)}
abbrev OkF (P : Program) (w : World) (K : PySem.W.Frag) (mg : Str → Option Value) (base : Heap) (cn : Cn) (k : Nat) (f : Addr) (fd : FuncData) (ps : List Str) (m : Fm) : Prop := FnOk P w K mg base (L2.CX P w) k f fd ps (fun vs H Q E => vs.length = ps.length ∧ spF cn m vs H Q E)
abbrev OkI (P : Program) (w : World) (K : PySem.W.Frag) (mg : Str → Option Value) (base : Heap) (cn : Cn) (k : Nat) (f : Addr) (fd : FuncData) (ps : List Str) (cl : Nat) (m : Fm) : Prop := FnOk P w K mg base (L2.CX P w) k f fd ps (fun vs H Q E => vs.length = ps.length ∧ spI cn cl m vs H Q E)
theorem fo1 (hK : K = cn.K) (F : FunD K x qual params body scope dvs kws f fd) (S : FnScope N ps scope)
    (hbody : ∀ (cdv : Value) (A : Around) (outer : List Env) (s : Shared) (H : Hp) (E : XK) (c : Ac), Ctx (cxOf (L2.CX P w) P w K mg base N qual scope f cdv A outer s H E) c (fun cls d _ H' => E cls d H') cn k →
      DSs (cxOf (L2.CX P w) P w K mg base N qual scope f cdv A outer s H E) c (fun cls d _ H' => E cls d H') body fb) {n p : Nat} (hn : N.length = n := by rfl) (hp : ps.length = p := by rfl) : OkF P w K mg base cn (k + 1) f fd ps (mOf n p fb) := by
  subst hn hp
  exact fnD_ok (cn := cn) F S fun cdv A outer s H E c hc hr => hbody cdv A outer s H E c ⟨by rw [hc]; exact hK, hc, hr, takes_of rfl rfl rfl rfl, rfl, S.nd, passes_of rfl⟩
theorem io1 {cl : Nat} (hK : K = cn.K) (F : FunD K x qual params body scope dvs kws f fd) (S : FnScope N ps scope)
    (hbody : ∀ (cdv : Value) (A : Around) (outer : List Env) (s : Shared) (H : Hp) (E : XK) (c : Ac), Ctx (cxOf (L2.CX P w) P w K mg base N qual scope f cdv A outer s H E) c (fun cls d _ H' => E cls d H') cn k →
      DSs (cxOf (L2.CX P w) P w K mg base N qual scope f cdv A outer s H E) c (fun cls d _ H' => E cls d H') body fb) {n p : Nat} (hn : N.length = n := by rfl) (hp : ps.length = p := by rfl) : OkI P w K mg base cn (k + 1) f fd ps cl (mOfI n p fb) := by
  subst hn hp
  exact init_ok (cn := cn) F S fun cdv A outer s H E c hc hr => hbody cdv A outer s H E c ⟨by rw [hc]; exact hK, hc, hr, takes_of rfl rfl rfl rfl, rfl, S.nd, passes_of rfl⟩
variable {n p : Nat} {m : Fm} {cl : Nat} {d : D} {v : V}
/-- all are written -/
theorem OkF.all (F : OkF P w K mg base cn k f fd ps (mOf n p fb)) (hp : ps.length = p) {ds : List Value} {l : List V} (hl : l = []) (hb : Vals l ds ∧ L2.Binds K fd ps ds) : FnR P w K mg base (L2.CX P w) k f (spF cn (mOf n p fb)) := by
  subst hl
  exact fnr_of F hp hb.2 hb.1 fl0 fun xs g _ => by rw [List.append_nil]
/-- the last one lacks -/
theorem OkF.dfl (F : OkF P w K mg base cn k f fd ps (mOf n p fb)) (hp : ps.length = p) {l : List V} (hl : l = [v]) (hd : flt d = some v) (hb : ∃ ds, Vals l ds ∧ L2.Binds K fd ps ds) : FnR P w K mg base (L2.CX P w) k f (spF cn (dfl (mOf n p fb) d)) := by
  subst hl
  obtain ⟨ds, h1, h2⟩ := hb
  exact fnr_of F hp h2 h1 (flt_ok hd) fun xs g _ => rfl
theorem OkI.all (F : OkI P w K mg base cn k f fd ps cl (mOfI n p fb)) (hp : ps.length = p) {ds : List Value} {l : List V} (hl : l = []) (hb : Vals l ds ∧ L2.Binds K fd ps ds) : FnR P w K mg base (L2.CX P w) k f (spI cn cl (mOfI n p fb)) := by
  subst hl
  exact fnr_ofI F hp hb.2 hb.1 fl0 fun xs g _ => by rw [List.append_nil]
theorem OkI.dfl (F : OkI P w K mg base cn k f fd ps cl (mOfI n p fb)) (hp : ps.length = p) {l : List V} (hl : l = [v]) (hd : flt d = some v) (hb : ∃ ds, Vals l ds ∧ L2.Binds K fd ps ds) : FnR P w K mg base (L2.CX P w) k f (spI cn cl (dfl (mOfI n p fb) d)) := by
  subst hl
  obtain ⟨ds, h1, h2⟩ := hb
  exact fnr_ofI F hp h2 h1 (flt_ok hd) fun xs g _ => rfl
variable {ks : List Str} {g : List Value → List Value → List Value}
theorem OkF.kw (F : OkF P w K mg base cn k f fd ps m) (hb : KBn K fd ps n ks g (fun vs zs => vs ++ zs)) (hn : n + ks.length = ps.length) : FnRK P w K mg base (L2.CX P w) k f n ks (spF cn m) :=
  fnrk_of F hb fun vs H Q E hl h => ⟨hl.trans hn, h⟩
theorem OkI.kw (F : OkI P w K mg base cn k f fd ps cl m) (hb : KBn K fd ps n ks g (fun vs zs => vs ++ zs)) (hn : n + ks.length = ps.length) : FnRK P w K mg base (L2.CX P w) k f n ks (spI cn cl m) :=
  fnrk_of F hb fun vs H Q E hl h => ⟨hl.trans hn, h⟩
end
end Dx

/-! Dx.Xin: error classes whose __init__ says super().__init__('..') and keeps one field; raw. -/
namespace DxR
open PySem PySem.W PySem.Calls PyProof.Rows PySem.Spec

section
variable {prog : Program} {w : World} {A : Around} {E : Value → Shared → Prop} {s : Shared} {K : Frag} {C : Addr} {B newId initId : String} {bmB : List Value}
/-- self.f = v, the first one -/
theorem xi_store {x t : Addr} {f : PySem.Str} {v : Value} {Q : Unit → Shared → Prop} (SF : StoreFacts B bmB "object.__setattr__" "object") (X : K.In s.heap) (hx : s.heap.get? x = some (excObj C t none .none)) (hp : excOver K C bmB = true)
    (ht : takerIn K C f = some none) (hh : hasDictIn K C = true) (hsa : findIn K (.ref C) "__setattr__" = some (some (.builtin "object.__setattr__")))
    (h : ∀ (dx : Addr) (h' : Heap) (tk : Nat), (∀ b o, b ≠ x → s.heap.get? b = some o → h'.get? b = some o) → s.heap.objs.size ≤ dx → dx ≠ x → h'.get? x = some (excObj C t (some dx) .none) →
      h'.Ns1 dx (fun y => if y = f then some v else none) → Q () { s with heap := h', toks := tk }) : wpAny (model prog w) A (setAttr (.ref x) f v) Q E s := by
  have I : InstAt s.heap x (excObj C t none .none) C none := ⟨hx, rfl, rfl, trivial⟩
  refine set_plain X I hsa ?_
  refine osa_openX (s := { s with toks := s.toks + 1 }) (od := none) SF X I hp ht fun b => ?_
  obtain ⟨cd, hc, hd⟩ := any_some hh
  have hxs : x < s.heap.objs.size := Heap.lt_size hx
  refine wpAny_bind (wpAny_pure (wpAny_bind (instanceDict_exc hx (looks_clsIn X hc) hd ?_)))
  have hpu : (s.heap.push (dictOf [] 0)).get? x = some (excObj C t none .none) := Heap.get?_push_of_some _ hx
  refine HandSPX.store_in_new ⟨_, #[], _, (Heap.get?_update_ne _ _ _ _ (Nat.ne_of_gt hxs)).trans (Heap.get?_push_at rfl rfl), rfl, fun e he => absurd he (by simp), fun _ => rfl⟩ fun h' tk' hn hs => ?_
  refine h s.heap.objs.size h' tk' (fun b o hb ho => ?_) (Nat.le_refl _) (Nat.ne_of_gt hxs) ?_ hn
  · exact (hs.2 b (Nat.ne_of_lt (Heap.lt_size ho))).trans ((Heap.get?_update_ne _ _ _ _ hb).trans (Heap.get?_push_of_some _ ho))
  · exact (hs.2 x (Nat.ne_of_lt hxs)).trans (Heap.get?_update_self _ hpu rfl)
/-- the bound __init__ of the base, called -/
theorem xi_init {u e t : Addr} {rest : List Value} {Q : Value → Shared → Prop} (FB : ExcBaseFacts B newId initId bmB) (X : K.In s.heap) (q : excInitIn K C bmB newId = true) (hu : s.heap.get? u = some (kxs_mw initId e)) (he : s.heap.get? e = some (excObj C t none .none))
    (hz : rest.length ≤ sizeLine) (h : ∀ (h' : Heap) (t' : Addr), (∀ b o, b ≠ e → s.heap.get? b = some o → h'.get? b = some o) → h'.get? e = some (excObj C t' none .none) → Q .none { s with heap := h' }) :
    wpAny (model prog w) A (call (.ref u) rest) Q E s := by
  obtain ⟨nm, N', qn, bs, bm, hdct, sn, sub, ab, col, dd, k0, k1, k2, k3, k5, hC, hT⟩ := excInit_of X q
  obtain ⟨hh, g, d, tk, os⟩ := s
  refine wpAny_call (codeAny_of_tree ?_)
  show wpAny _ A.in1 (callAny (.ref u) ⟨rest, []⟩) _ _ _
  simp only [callAny]
  refine wpAny_bind (wpAny_load hu ?_)
  simp only [kxs_mw]
  refine KFB.if_so (by decide) ?_
  refine wpAny_bind (check_bound_init FB.toExcCallFacts hC he rfl (wpAny_bind (wpAny_pure (wpAny_pure ⟨plainId_quiet FB.init.plain _, codeAny_builtin FB.initEntry ?_⟩))))
  exact exc_init_tree (cls := .ref C) (t0 := t) (dv := none) (c2 := .none) (c3 := .none) (b4 := .bool false) he hz fun h' k e' _ => h h' _ k e'
/-- super() in a def of the class at D -/
theorem xi_super {body : List Stmt} {q : PySem.Str} {scope : Scope} {p0 p1 : Pos} {attr : PySem.Str} {whole : Sem Value} {fd : FuncData} {ar : Arg} {vs : Array Value} {file : PySem.Str} {tf : Tok} {oc ccl cl : Value} {od cdd cld : Option Addr} {osl ccs csl : Array (Option Value)} {cdD : ClassData}
    {f cc cda L D x t : Addr} {m mg mb : PySem.Str → Option Value} {Q : Value → Shared → Prop} (X : K.In s.heap) (hns : s.heap.Ns L m) (hg : s.heap.Ns mainGlobals mg) (hb : s.heap.Ns builtinsNs mb) (hbb : ∀ y : PySem.Str, y ≠ "__name__" → mb y = bootBuiltins y)
    (hf : K.lookup f = some ⟨oc, od, .func fd, osl⟩) (hp : (fd.params.posonlyargs ++ fd.params.args).head? = some ar) (hv : m ar.arg = some (.ref x)) (hx : s.heap.get? x = some (excObj C t none .none))
    (hcode : K.lookup cda = some ⟨ccl, cdd, .fields vs, ccs⟩) (hvs : vs[2]? = some (.str file tf)) (hfile : ((prog.main.file : PySem.Str) == file) = true)
    (hcell : K.lookup cc = some ⟨cl, cld, .cell (some (.ref D)), csl⟩) (hD : clsIn K D = some cdD) (hsub : mroIn K C (.ref D) = some true) (hsuper : mg "super" = none)
    (hat : (attr == ("__class__" : PySem.Str)) = false) (hks : scope.names.lookup ("super" : PySem.Str) = some .globalImplicit) (hkc : scope.names.lookup ("__class__" : PySem.Str) = some .free) (hka : scope.names.lookup ar.arg = some .local) (hk : scope.kind = .function)
    (htop : (prog.main.scope.names.lookup ("super" : PySem.Str)).isSome = false)
    (h : ∀ so h', h'.get? so = some (ks_superObj D x C) → (∀ b o, s.heap.get? b = some o → h'.get? b = some o) → Q (.ref so) { s with heap := h' }) :
    _root_.PySem.wpAt (model prog w) A (.func body (ksEnv q scope L f (.ref cda) cc)) (attributeBase (.Call (.Name "super" p0) [] [] p1) attr (ksEnv q scope L f (.ref cda) cc) whole) Q E s := by
  obtain ⟨hh, g, d, tk, os⟩ := s
  obtain ⟨oD, hD1, hD2⟩ : ∃ oD, hh.get? D = some oD ∧ oD.data = .cls cdD := by
    unfold clsIn at hD
    split at hD
    · rename_i c d cd' sl ho
      cases hD
      exact ⟨_, X _ _ ho, rfl⟩
    · cases hD
  refine ks_wpAt_super_base (env := ksEnv q scope L f (.ref cda) cc) hks hkc hat rfl (X _ _ hf) rfl hp rfl (X _ _ hcode) rfl hvs hfile htop ?_
  refine ks_loadName_global hk hks (loadGlobal_builtin (env := ksEnv q scope L f (.ref cda) cc) hg hsuper hb ((hbb _ (by decide +kernel)).trans PyProof.Rows.Boot.«super») ⟨rfl, ?_⟩)
  refine wpAny_loadName_free hk hkc rfl ⟨_, X _ _ hcell, rfl⟩ ?_
  refine wpAny_loadName_local hk hka hns hv ?_
  refine ks_wpAny_isType_cls hD1 hD2 ⟨rfl, ?_⟩
  exact ks_wpAny_call_super hD1 hD2 hx rfl (fun c e => by cases e) (looks_mroIn X hsub) (fun h' e k => h _ h' e k)
end

/-- the shape of such an __init__ -/
structure XinS (st : Stmt) (slf vn f : PySem.Str) : Prop where
  body : ∃ (m : PySem.Str) (j : Nat) (p0 p1 p2 p3 p4 p5 p6 p7 p8 p9 : Pos), L2.defBody st = [.Expr (.Call (.Attribute (.Call (.Name "super" p0) [] [] p1) "__init__" p2) [.Constant (.str m) j p3] [] p4) p5,
    .Assign [.Attribute (.Name slf p6) f p7] (.Name vn p8) p9] ∧
    (∀ env : Env, eval (.Call (.Attribute (.Call (.Name "super" p0) [] [] p1) "__init__" p2) [.Constant (.str m) j p3] [] p4) env = (do
      let ov ← attributeBase (.Call (.Name "super" p0) [] [] p1) "__init__" env (eval (.Call (.Name "super" p0) [] [] p1) env)
      standAt p2.atName
      let (f, first) ← holding [ov] (getMethod ov "__init__" (do return (← importBound (.Call (.Name "super" p0) [] [] p1) env).getD true))
      callWith p4 f first (backTo p4 (starEach [.Constant (.str m) j p3] env)) [])) ∧
    ∀ env : Env, swapsWith (.Name vn p8) (some (.Attribute (.Name slf p6) f p7)) p9.line env = pure false
  par : ∃ ar, ((L2.defArgs st).posonlyargs ++ (L2.defArgs st).args).head? = some ar ∧ ar.arg = slf
  bind : ∀ (nm q : PySem.Str) (kV doc pm : Value) (an : Option Addr) (cdv ct : Value) (cc : Addr) (u v : Value), bindArgs (ksFn nm q (L2.defArgs st) (L2.defBody st) (L2.defScope st) .none kV doc pm an cdv ct cc) ⟨[u, v], []⟩ = pure [(slf, u), (vn, v)]
  sup : (L2.defScope st).names.lookup ("super" : PySem.Str) = some .globalImplicit
  cls : (L2.defScope st).names.lookup ("__class__" : PySem.Str) = some .free
  hslf : (L2.defScope st).names.lookup slf = some .local
  hvn : (L2.defScope st).names.lookup vn = some .local
  ne : slf ≠ vn
  nc : ∀ x ∈ (L2.defScope st).names, x.2 ≠ .cell
  co : (L2.defScope st).isCoroutine = false
  gen : (L2.defScope st).isGenerator = false
  kind : (L2.defScope st).kind = .function
  nd1 : (slf == ("__debug__" : PySem.Str)) = false
  nd2 : (vn == ("__debug__" : PySem.Str)) = false
/-- what the written part says of such a class -/
structure XinK (P : Program) (K : Frag) (C fI : Addr) (f : PySem.Str) (st : Stmt) (B newId initId : String) (bmB : List Value) : Prop where
  FB : ExcBaseFacts B newId initId bmB
  SF : StoreFacts B bmB "object.__setattr__" "object"
  KF : KxsFacts B initId
  q : excInitIn K C bmB newId = true
  ov : excOver K C bmB = true
  tk : takerIn K C f = some none
  hd : hasDictIn K C = true
  sa : findIn K (.ref C) "__setattr__" = some (some (.builtin "object.__setattr__"))
  op : nsIn K cStatics "thirdparty.any" = some none
  sup : ks_superIn K C C "__init__" = some (some (.builtin initId))
  sub : subIn K (.ref C) (.type B) = some true
  self : mroIn K C (.ref C) = some true
  ini : findIn K (.ref C) "__init__" = some (some (.ref fI))
  fty : typeIn K (.ref fI) = some (.type "function")
  fn : ∃ (oc : Value) (od : Option Addr) (nm qual : PySem.Str) (kV doc pm : Value) (an : Option Addr) (cda cc : Addr) (ct : Value) (osl : Array (Option Value)),
    K.lookup fI = some ⟨oc, od, .func (ksFn nm qual (L2.defArgs st) (L2.defBody st) (L2.defScope st) .none kV doc pm an (.ref cda) ct cc), osl⟩ ∧ codeIn K (.ref cda) qual = true ∧
    (∃ (cl : Value) (cld : Option Addr) (csl : Array (Option Value)), K.lookup cc = some ⟨cl, cld, .cell (some (.ref C)), csl⟩) ∧
    ∃ (ccl : Value) (cdd : Option Addr) (vs : Array Value) (ccs : Array (Option Value)) (file : PySem.Str) (tf : Tok), K.lookup cda = some ⟨ccl, cdd, .fields vs, ccs⟩ ∧ vs[2]? = some (.str file tf) ∧ ((P.main.file : PySem.Str) == file) = true
  top : (P.main.scope.names.lookup ("super" : PySem.Str)).isSome = false
section
variable {P : Program} {w : World} {A : Around} {s : Shared} {K : Frag} {C fI : Addr} {f slf vn : PySem.Str} {st : Stmt} {B newId initId : String} {bmB : List Value}
theorem clsIn_of {K : Frag} {C : Addr} {bmB : List Value} {n : String} (q : excInitIn K C bmB n = true) : ∃ cd, clsIn K C = some cd := by
  unfold excInitIn at q
  split at q
  · rename_i dd cd sl ho
    exact ⟨cd, by unfold clsIn; rw [ho]⟩
  · cases q
/-- __init__ walked: the exception gets its dict, with the field -/
theorem xi_run (T : XinK P K C fI f st B newId initId bmB) (S : XinS st slf vn f) {mg mb : PySem.Str → Option Value} (hroom : A.depth < recursionLimit) (X : K.In s.heap) (hg : s.heap.Ns mainGlobals mg) (hb : s.heap.Ns builtinsNs mb) (hbb : ∀ y : PySem.Str, y ≠ "__name__" → mb y = bootBuiltins y)
    (lim : s.heap.NoLimit) (hsuper : mg "super" = none) {e t : Addr} {v : Value} (he : s.heap.get? e = some (excObj C t none .none)) (hKe : ∀ b o, K.lookup b = some o → b ≠ e) {R : Result → Shared → Prop}
    (h : ∀ (dx t' : Addr) (h' : Heap) (tk : Nat), (∀ b o, b ≠ e → s.heap.get? b = some o → h'.get? b = some o) → s.heap.objs.size ≤ dx → dx ≠ e → h'.get? e = some (excObj C t' (some dx) .none) → h'.Ns1 dx (fun y => if y = f then some v else none) → R (.ok (.ret .none)) { s with heap := h', toks := tk }) :
    codeAny (model P w) A (.call (.ref fI) ⟨[.ref e, v], []⟩) R s := by
  obtain ⟨oc, od, nm, qual, kV, doc, pm, an, cda, cc, ct, osl, lk, hcd, ⟨cl, cld, csl, hcell⟩, ccl, cdd, vs, ccs, file, tf, hcode, hvs, hfile⟩ := T.fn
  obtain ⟨m, j, p0, p1, p2, p3, p4, p5, p6, p7, p8, p9, hbody, hev, hsw⟩ := S.body
  obtain ⟨ar, hpar, har⟩ := S.par
  obtain ⟨cd, hcl⟩ := clsIn_of T.q
  refine ks_codeAny_call_defAt (fd := ksFn nm qual (L2.defArgs st) (L2.defBody st) (L2.defScope st) .none kV doc pm an (.ref cda) ct cc) (body := L2.defBody st) (binds := [(slf, .ref e), (vn, v)]) hroom (X _ _ lk) rfl lim (codeRec_of X hcd) rfl (.of_eq (S.bind ..)) S.nc
    (fun y hy => by
      rcases List.mem_cons.mp hy with rfl | hy
      · exact S.hslf
      · rcases List.mem_cons.mp hy with rfl | hy
        · exact S.hvn
        · cases hy) (fun h₁ hns kp => ?_) S.co S.gen S.kind
  have X1 : K.In h₁ := X.keeps kp
  have l1 : List.lookup slf ([(slf, Value.ref e), (vn, v)] : List (PySem.Str × Value)).reverse = some (.ref e) := by
    show List.lookup slf [(vn, v), (slf, Value.ref e)] = _
    have z : (slf == vn) = false := beq_false_of_ne S.ne
    simp [List.lookup, z]
  have l2 : List.lookup vn ([(slf, Value.ref e), (vn, v)] : List (PySem.Str × Value)).reverse = some v := by
    show List.lookup vn [(vn, v), (slf, Value.ref e)] = _
    simp [List.lookup]
  rw [hbody]
  have I2 : ∀ {h2 : Heap}, h2.get? e = some (excObj C t none .none) → InstAt h2 e (excObj C t none .none) C none := fun q => ⟨q, rfl, rfl, trivial⟩
  refine ks_wpAt_execs_cons (ks_wpAt_Expr_any (ks_wpAt_MethodCall (xi_super (s := ⟨h₁, _, _, _, _⟩) (prog := P) X1 hns (hg.keeps kp) (hb.keeps kp) hbb lk hpar (by rw [har]; exact l1) (kp _ _ he) hcode hvs hfile hcell hcl T.self hsuper rfl S.sup S.cls (by rw [har]; exact S.hslf) S.kind T.top fun so h2 hso k2 => ?_) (hev _)) (hi := (by unfold interactive; rw [show (callEnv (ksFn nm qual (L2.defArgs st) _ (L2.defScope st) .none kV doc pm an (.ref cda) ct cc) s.heap.objs.size fI).scope.kind = .function from S.kind]; rfl)))
  have X2 : K.In h2 := X1.keeps k2
  have he2 := k2 _ _ (kp _ _ he)
  refine kxs_getMethod (K := K) T.KF hso (looks_opaque X2 T.op) (l₀ := cd.mro) (fun A Q E s k q => wpAny_bind ((looks_clsIn X2 hcl) A _ E s k (wpAny_pure q))) rfl X2 (by have z := T.sup; unfold ks_superIn at z; rw [hcl] at z; exact z) ((I2 he2).type.andThen (looks_subIn X2 T.sub)) (ks_ne X2 (I2 he2) hcl) rfl ?_
  refine kxs_callWith (i := initId) (x := e) rfl ?_
  refine evalArgs_plain (spliced_cons (Calls.Constant_str (k := j) (pos := p3) (spliced_nil ⟨Heap.get?_push_size _ rfl, ?_⟩)))
  refine xi_init T.FB (X2.keeps fun b o q => Heap.get?_push_of_some _ q) T.q (Heap.get?_push_size _ rfl) (Heap.get?_push_of_some _ he2) (by show 1 ≤ sizeLine; rw [sizeLine_eq]; omega) fun h3 t3 k3 he3 => ?_
  have keep3 : ∀ b o, b ≠ e → h₁.get? b = some o → h3.get? b = some o := fun b o hb q => k3 b o hb (Heap.get?_push_of_some _ (k2 b o q))
  have K3 : K.In h3 := fun b o q => keep3 b o (hKe b o q) (X1 b o q)
  have hL : s.heap.objs.size ≠ e := Nat.ne_of_gt (Heap.lt_size he)
  have hns3 : h3.Ns s.heap.objs.size fun x => List.lookup x ([(slf, Value.ref e), (vn, v)] : List (PySem.Str × Value)).reverse := by
    obtain ⟨oL, es, ep, q1, q2⟩ := hns
    exact ⟨oL, es, ep, keep3 _ _ hL q1, q2⟩
  refine ks_wpAt_execs_cons (ks_wpAt_Assign_Attr (wpAt_of_wpAny (wpAny_Name (wpAny_loadName_local S.kind S.hvn hns3 l2 (wpAny_Name (wpAny_loadName_local S.kind S.hslf hns3 l1 ?_) S.nd1)) S.nd2)) (hsw _))
  refine xi_store (s := ⟨h3, _, _, _, _⟩) T.SF K3 he3 T.ov T.tk T.hd T.sa fun dx h4 tk k4 hsz ne he4 hn4 => ?_
  refine wpAt_of_wpAny (wpAny_execs_nil ?_)
  refine h dx t3 h4 tk (fun b o hb q => k4 b o hb (keep3 b o hb (kp b o q))) ?_ ne he4 hn4
  have q := Heap.lt_size (keep3 _ _ hL hns.choose_spec.choose_spec.choose_spec.1)
  exact Nat.le_trans (Nat.le_of_lt q) hsz
end
end DxR

/-! Dx.Rse: raise of own errors. -/
namespace Dx
open PySem PySem.Spec PyProof.Rows L2

/-- the class at C: an error class with the one field f -/
def XinOk (P : Program) (K : PySem.W.Frag) (C : Addr) (f : Str) : Prop :=
  ∃ (fI : Addr) (st : Stmt) (slf vn : Str) (B newId initId : String) (bmB : List Value), DxR.XinK P K C fI f st B newId initId bmB ∧ DxR.XinS st slf vn f ∧ PySem.W.keepIn K (.ref C) = true ∧ PySem.W.subIn K (.ref C) (.type "BaseException") = some true ∧ PySem.W.typeIn K (.ref C) = some (.type "type")
section
variable {X : Cx} {C : Addr} {f x : Str} {e : Expr} {te : TE} {p pos : Pos} {k : Nat}
theorem pmk_xin (T : XinOk X.prog X.K C f) (hsu : X.mg "super" = none) (hr : Room (k + 1) X.A) (hg : Gl X x) (hm : X.mg x = some (.ref C)) (he : PE X e te)
    (hdb : (x == ("__debug__" : Str)) = false := by decide) (hs : starEach [e] X.env = (false, eval e X.env) :: starEach [] X.env := by rfl) :
    PMk X (.Call (.Name x p) [e] [] pos) (fun σ H Q => te σ H fun v H1 => ∀ d, H1 d = none → Q (.ref C) (some d) (upd H1 d (.xd [(f, v)]))) := by
  intro pins s σ H Q I h
  obtain ⟨fI, st, slf, vn, B, newId, initId, bmB, T, S, kC, eC, tC⟩ := T
  refine wpAny_Call_Name_kw (ld_glob I hg hm ?_ hdb)
  have h' : tCons te tNil σ H (fun vs H1 => match vs with | [v] => ∀ d, H1 d = none → Q (.ref C) (some d) (upd H1 d (.xd [(f, v)])) | _ => False) := h
  refine PySem.W.callWith_K (h₀ := X.base) I.ok.mod.kin kC (thn ((pa_cons he pa_nil hs).run pos pins s σ H _ I h') fun us s1 ⟨vs, H1, I1, r1, q⟩ => ⟨I1.kIn, ?_⟩) hs rfl
  cases r1 with
  | nil => exact q.elim
  | @cons v u vs2 us2 rv rest =>
    cases rest with
    | cons _ _ => exact q.elim
    | nil =>
      have q : ∀ d, H1 d = none → Q (.ref C) (some d) (upd H1 d (.xd [(f, v)])) := q
      obtain ⟨nm, N', qn, bs, bm, hdct, sn, sub, ab, col, dd, k0, k1, k2, k3, k5, hC, hT⟩ := PySem.W.excInit_of I1.kIn T.q
      obtain ⟨hp, g, dr, tk, os⟩ := s1
      show wpAny _ _ (call (.ref C) [u]) _ _ _
      have up : ∀ b o, hp.get? b = some o → ((hp.push (PySem.W.kdv_tup [u])).push (PySem.HandSPX.excO C hp.objs.size)).get? b = some o := fun b o e => Heap.get?_push_of_some _ (Heap.get?_push_of_some _ e)
      have hget : ((hp.push (PySem.W.kdv_tup [u])).push (PySem.HandSPX.excO C hp.objs.size)).get? (hp.objs.size + 1) = some (PySem.HandSPX.excO C hp.objs.size) := by heap_get
      have ne : ∀ {b : Addr} {o : Obj}, hp.get? b = some o → b ≠ hp.objs.size + 1 := fun {b o} e => Nat.ne_of_lt (Nat.lt_succ_of_lt (Heap.lt_size e))
      have KX : X.K.In hp := I1.kIn
      refine wpAny_call (PySem.HandSPX.call_own T.FB hT hC (PySem.W.looks_findIn KX T.ini) (fun self => PySem.W.bind_fn KX self T.fty) (by show 1 ≤ sizeLine; rw [sizeLine_eq]; omega) ?_)
      have bk : ∀ b o, X.base.get? b = some o → ((hp.push (PySem.W.kdv_tup [u])).push (PySem.HandSPX.excO C hp.objs.size)).get? b = some o := fun b o e => up b o (I1.bk b o e)
      obtain ⟨mb, hmb, hbb⟩ := I1.mod.blt
      refine DxR.xi_run (P := X.prog) (mg := X.mg) (mb := mb) T S (hr.make C [u] []).depth (KX.keeps up) (I1.mod.glob.keeps bk) (hmb.keeps bk) hbb (I1.mod.nolimit.keeps bk) hsu hget (fun b o e => ne (KX b o e)) fun dx t' h' tk' k hsz hne he' hn => ?_
      obtain ⟨G, g1, g2⟩ := L2.restrict h' fun b => decide (b ≠ hp.objs.size + 1)
      have gk : ∀ b, b ≠ hp.objs.size + 1 → G.get? b = h'.get? b := fun b hb => g1 b (decide_eq_true hb)
      have ge : G.get? (hp.objs.size + 1) = none := g2 _ (by simp)
      have hdx : hp.objs.size ≤ dx := Nat.le_trans (by rw [Heap.size_push, Heap.size_push]; omega) hsz
      have nd : H1 dx = none := I1.hok.fresh hdx
      have na : H1 (hp.objs.size + 1) = none := I1.hok.fresh (Nat.le_succ _)
      have J : L2.Inv X pins σ (upd H1 dx (.xd [(f, v)])) ⟨G, g, dr, tk', os⟩ := I1.laid (t' := tk') (h' := G) (fun b o e => (gk b (ne e)).trans (k b o (ne e) (up b o e))) hdx (by
        refine ⟨_, hn.at fun o z => (gk dx hne).trans z, fun y => ?_⟩
        show L2.RelO (List.lookup y [(f, v)]) (if y = f then some u else none)
        by_cases z : y = f
        · subst z
          rw [if_pos rfl]
          simp only [List.lookup, beq_self_eq_true]
          exact rv
        · rw [if_neg z]
          have z2 : (y == f) = false := beq_false_of_ne z
          simp only [List.lookup, z2]
          trivial)
      exact ⟨rfl, hp.objs.size + 1, _, _, ⟨G, g, dr, tk', os⟩, _, .ref C, some dx, rfl, J, fun b o e => by
        by_cases z : b = hp.objs.size + 1
        · rw [z, ge] at e
          cases e
        · exact (gk b z).symm.trans e, ge, he', ⟨rfl, rfl⟩, rfl, rfl, by rw [upd_ne (Ne.symm hne)]; exact na, rfl, I1.bare, L2.raises_own eC tC, q dx nd⟩
end
def zRaise (n : Nat) (fe : LSt → Res D) : LSt → Fl := fun l => (fe l).toFl fun d l => .ex ⟨n, [d]⟩ l
def zRaise0 (n : Nat) : LSt → Fl := fun l => .ex ⟨n, []⟩ l
/-- error classes by their numbers -/
structure Xe1 (P : Program) (K : PySem.W.Frag) (mg : Str → Option Value) (cn : Cn) (x : Str) (n : Nat) : Prop where
  m : mg x = some (.ref (cn.cA n))
  s : mg "super" = none
  o : XinOk P K (cn.cA n) (cn.xf n)
structure Xe0 (K : PySem.W.Frag) (mg : Str → Option Value) (cn : Cn) (x : Str) (n : Nat) : Prop where
  m : mg x = some (.ref (cn.cA n))
  o : ∃ (B newId initId : String) (bmB : List Value), ExcBaseFacts B newId initId bmB ∧ PySem.W.excIn K (cn.cA n) bmB newId = true ∧ PySem.W.keepIn K (.ref (cn.cA n)) = true ∧ PySem.W.subIn K (.ref (cn.cA n)) (.type "BaseException") = some true ∧ PySem.W.typeIn K (.ref (cn.cA n)) = some (.type "type")
section
variable {X : Cx} {c : Ac} {W : WX} {cn : Cn} {k : Nat} {x m : Str} {e : Expr} {fe : LSt → Res D} {p p1 pos pos' : Pos} {n j : Nat}
theorem s_raise (Z : Ctx X c W cn (k + 1)) (T : Xe1 X.prog X.K X.mg cn x n) (he : DE X c W e fe) (hg : Gl X x := by rfl) (hdb : (x == ("__debug__" : Str)) = false := by decide) (hs : starEach [e] X.env = (false, eval e X.env) :: starEach [] X.env := by rfl) :
    DS X c W (.Raise (some (.Call (.Name x p) [e] [] pos)) none pos') (zRaise n fe) :=
  ⟨(ps_raise Z.calm Z.tk (pmk_xin (k := k) T.o T.s Z.hr hg T.m he.pe hdb hs)).imp' fun D σ H ⟨Hf, l, R, h⟩ => to_bind R h fun d l1 v H1 Hf1 R1 s1 r1 h1 dx nd =>
    h1 _ _ _ _ _ (R1.alloc nd) (same_upd (R1.free nd)) ⟨by rw [Z.hc], .inr ⟨d, dx, v, rfl, rfl, by rw [upd_same, Z.hc], r1.mono (same_upd (R1.free nd))⟩⟩⟩
theorem s_raise0 (Z : Ctx X c W cn k) (T : Xe0 X.K X.mg cn x n) (hg : Gl X x := by rfl) (hdb : (x == ("__debug__" : Str)) = false := by decide) :
    DS X c W (.Raise (some (.Call (.Name x p) [.Constant (.str m) j p1] [] pos)) none pos') (zRaise0 n) := by
  obtain ⟨B, newId, initId, bmB, F, q, kC, eC, tC⟩ := T.o
  exact ⟨(ps_raise Z.calm Z.tk (pmk_own F q T.m kC (raises_own eC tC) hg hdb)).imp' fun D σ H ⟨Hf, l, R, h⟩ => h _ _ _ _ _ R (Same.refl _) ⟨by rw [Z.hc], .inl rfl⟩⟩
end
end Dx

/-! Dx.Thk: f(lambda: e), f a def that calls what it got. -/
namespace Dx
open PySem PySem.Spec PyProof.Rows L2

/-! ### tables of code objects grow -/
abbrev tbN (ps : Array Value) (pos : Pos) (c' : Addr) : Array Value := ps ++ #[rawInt pos.line, rawInt pos.col, .ref c']
section
variable {c : Ac} {Hf H : Hp} {σ : L2.St} {l : LSt}
/-- a table is written -/
theorem REnv.tblPut (R : REnv c Hf σ H l) {P : Addr} {q : Str} {ps ps' : Array Value} (hq : c.tq P = some q) (hP : H P = some (.tbl ps)) (ht : TriplesOk ps'.toList)
    (ha : ∀ (pos : Pos) (cv : Value), codeAmong pos ps'.toList = some cv → ∃ c, cv = .ref c ∧ Hf c = some (LamX.CodeO c q)) : REnv c Hf σ (upd H P (.tbl ps')) l := by
  have hT : isT c.toCn P := .inl (by rw [hq]; rfl)
  have nd : ∀ {a : Addr}, ¬ isD c.toCn l.g c.ad a → a ≠ P := fun {a} h z => h (.inr (.inr (z ▸ hT)))
  have nf : Hf P = none := (R.dice.tb.lam P q hq).1
  have nt : ∀ {a : Addr} {o : HO}, H a = some o → (∀ ps, o ≠ .tbl ps) → a ≠ P := fun {a o} e h z => by
    rw [z, hP] at e
    exact h ps (Option.some.inj e).symm
  refine ⟨R.len, fun j s hj => ?_, R.dis, fun b u hb => ?_, R.base, fun b u hb => ?_, ⟨fun x y z e => ?_, fun n fs e => ?_, ⟨fun P2 q2 h2 => ?_, fun P2 h2 => ?_⟩⟩, R.hgs⟩
  · obtain ⟨x, e, r⟩ := R.slot j s hj
    refine ⟨x, e, ?_⟩
    cases s with
    | un => exact True.intro
    | v d => exact r
    | slf => exact r
    | fn => exact r
    | er _ _ => exact r
    | own co =>
      obtain ⟨a, o, q1, h, r, n, n0, d⟩ := r
      exact ⟨a, o, q1, by rw [upd_ne (nd d)]; exact h, r, n, n0, d⟩
  · rw [upd_ne (fun z => by rw [z, nf] at hb; cases hb)]
    exact R.sub b u hb
  · obtain ⟨h1, h2, h3⟩ := R.frame b u hb
    exact ⟨by rw [upd_ne (nd h3)]; exact h1, h2, h3⟩
  · obtain ⟨h1, h2⟩ := R.dice.dc x y z e
    exact ⟨h1, by rw [upd_ne (nt h2 fun ps z => by cases z)]; exact h2⟩
  · obtain ⟨q1, q2, q3, q4, us, q5, q6⟩ := R.dice.obj n fs e
    have n2 : c.ad.od ≠ P := by
      rcases q4 with h | h
      · exact nt h fun ps z => by cases z
      · exact nt h fun ps z => by cases z
    have n1 : c.ad.oa ≠ P := by
      rcases q5 with ⟨h, _⟩ | ⟨h, _⟩
      · exact nt h fun ps z => by cases z
      · exact nt h fun ps z => by unfold SlX.SlO at z; cases z
    exact ⟨q1, q2, q3, by rw [upd_ne n2]; exact q4, us, slt_upd q5 n1 n2, q6⟩
  · obtain ⟨h1, h3⟩ := R.dice.tb.lam P2 q2 h2
    by_cases e : P2 = P
    · subst e
      rw [hq] at h2
      cases h2
      exact ⟨h1, ps', upd_same, ht, ha⟩
    · exact ⟨h1, h3.keep (Same.refl _) (upd_ne e)⟩
  · obtain ⟨h1, ps2, h3, h4⟩ := R.dice.tb.gen P2 h2
    by_cases e : P2 = P
    · subst e
      exact ⟨h1, ps', upd_same, ht⟩
    · exact ⟨h1, ps2, by rw [upd_ne e]; exact h3, h4⟩
/-- a new code object, told by its table -/
theorem REnv.lam (R : REnv c Hf σ H l) {P c' : Addr} {q : Str} {ps : Array Value} {pos : Pos} (hq : c.tq P = some q) (hP : H P = some (.tbl ps)) (n : H c' = none) :
    REnv c (upd Hf c' (LamX.CodeO c' q)) σ (upd (upd H P (.tbl (tbN ps pos c'))) c' (LamX.CodeO c' q)) l := by
  have nP : P ≠ c' := ne_of_none hP n
  have R1 := R.alloc (o := LamX.CodeO c' q) n
  have e : upd (upd H P (.tbl (tbN ps pos c'))) c' (LamX.CodeO c' q) = upd (upd H c' (LamX.CodeO c' q)) P (.tbl (tbN ps pos c')) := by
    funext b
    by_cases h1 : b = c'
    · subst h1
      rw [upd_same, upd_ne (Ne.symm nP), upd_same]
    · by_cases h2 : b = P
      · subst h2
        rw [upd_ne h1, upd_same, upd_same]
      · rw [upd_ne h1, upd_ne h2, upd_ne h2, upd_ne h1]
  rw [e]
  obtain ⟨_, ps2, t1, t2, t3⟩ := R.dice.tb.lam P q hq
  rw [hP] at t1
  cases t1
  have eL : (tbN ps pos c').toList = ps.toList ++ [rawInt pos.line, rawInt pos.col, .ref c'] := by simp
  refine R1.tblPut (ps := ps) hq (by rw [upd_ne nP]; exact hP) (by rw [eL]; exact PySem.TriplesOk_snoc _ _ _ _ t2) fun p' cv hcv => ?_
  rw [eL] at hcv
  rcases LamX.among_app _ t2 hcv with z | z
  · obtain ⟨c0, e1, e2⟩ := t3 p' cv z
    exact ⟨c0, e1, by rw [upd_ne (fun w => by rw [w, R.sub.free n] at e2; cases e2)]; exact e2⟩
  · exact ⟨c', z, upd_same⟩
end

/-! ### a lambda is made -/
section
variable {X : Cx} {pins : List (Addr × Obj)} {σ : L2.St} {H : Hp} {s : Shared} {c P : Addr} {ps : Array Value} {params : Arguments} {body : Expr} {scope : Scope} {pos : Pos} {E Q : Value → Shared → Prop}
abbrev lmO (X : Cx) (params : Arguments) (body : Expr) (scope : Scope) (pm : Value) (c' : Addr) (ctv : Value) : Obj := PySem.W.kla_obj "<lambda>" (X.env.qual ++ "<lambda>") params body scope (cloFrom X.env.cells scope.names []) pm c' ctv
theorem lam_new (I : Inv X pins σ H s) (TB : LamX.TabB X.base X.mg c P) (hcode : X.env.code = .ref c) (hdef : defaultsOf params X.env = ([], [])) (hfree : ∀ y ∈ scope.names, y.2 = .free → ∃ c, X.env.cells.lookup y.1 = some c)
    (hP : H P = some (.tbl ps)) (ht : TriplesOk ps.toList) (ha : ∀ cv, codeAmong pos ps.toList = some cv → ∃ c', cv = .ref c')
    (h1 : ∀ (f c' : Addr) (pm ctv : Value) (s' : Shared), codeAmong pos ps.toList = some (.ref c') → Inv X pins σ H s' → s'.heap.get? f = some (lmO X params body scope pm c' ctv) → H f = none → f ∉ frs X.stack → Q (.ref f) s')
    (h2 : ∀ (f c' : Addr) (pm ctv : Value) (s' : Shared), H c' = none → Inv X pins σ (upd (upd H P (.tbl (tbN ps pos c'))) c' (LamX.CodeO c' (X.env.qual ++ "<lambda>"))) s' → s'.heap.get? f = some (lmO X params body scope pm c' ctv) →
      upd (upd H P (.tbl (tbN ps pos c'))) c' (LamX.CodeO c' (X.env.qual ++ "<lambda>")) f = none → f ∉ frs X.stack → Q (.ref f) s') : wpAny (model X.prog X.w) X.A (eval (.Lambda params body scope pos) X.env) Q E s := by
  have out : ∀ f, s.heap.objs.size ≤ f → f ∉ frs X.stack := fun f hf z => by
    rcases List.mem_cons.mp (I.stkSub _ z) with e | e
    · have lt := I.lt
      rw [← e] at lt
      exact Nat.lt_irrefl _ (Nat.lt_of_lt_of_le lt hf)
    · exact I.nofs hf e
  have tb : s.heap.get? P = some { cls := .none, data := .fields ps } := I.hok P _ hP
  have bl : s.heap.BuiltinsAt X.mg P := TB.bm.keeps I.bk
  refine PySem.W.kla_eval hdef ?_
  cases hc : codeAmong pos ps.toList with
  | some cv =>
    obtain ⟨c', rfl⟩ := ha cv hc
    exact PySem.W.kla_makeFunctionHit (closure_ok hfree) I.ok.glob (I.mod.glob.keeps I.bk) hcode (TB.code.keeps I.bk) tb ht hc bl fun ctv h' tk k sz =>
      h1 h'.objs.size c' _ ctv _ hc (I.kept fun b o e => Heap.get?_push_of_some _ (k b o e)) (Heap.get?_push_size _ rfl) (I.hok.fresh sz) (out _ sz)
  | none =>
    refine PySem.W.kla_makeFunction (closure_ok hfree) I.ok.glob (I.mod.glob.keeps I.bk) hcode (TB.code.keeps I.bk) tb ht hc TB.gP bl fun c' ctv h' tk k ge lt hr ht' => ?_
    obtain ⟨c2, oc, vs, t, e2, g1, g2, g3⟩ := hr
    cases e2
    have sz : s.heap.objs.size ≤ h'.objs.size := by omega
    have nc : H c' = none := I.hok.fresh ge
    have J := LamX.inv_table (t' := tk) (c := c') (more := #[rawInt pos.line, rawInt pos.col, .ref c']) (h' := h'.push (lmO X params body scope ((X.mg "__name__").getD .none) c' ctv)) I hP (fun b o hb e => Heap.get?_push_of_some _ (k b o hb e)) (Heap.get?_push_of_some _ ht') ge
      ⟨oc, vs, t, Heap.get?_push_of_some _ g1, g2, g3⟩
    refine h2 h'.objs.size c' _ ctv _ nc J (Heap.get?_push_size _ rfl) ?_ (out _ sz)
    rw [upd_ne (Nat.ne_of_gt lt), upd_ne (fun z => by
      have q := Heap.lt_size tb
      rw [← z] at q
      exact Nat.lt_irrefl _ (Nat.lt_of_lt_of_le q sz))]
    exact I.hok.fresh sz
end

/-! ### the lambda is called by the def that got it -/
section
variable {X : Cx} {pins : List (Addr × Obj)} {σ : L2.St} {H1 : Hp} {s1 : Shared}
theorem thk_act {CXg : CXT} {Eg : XK} {Ng : List Str} {qg : Str} {sg : Scope} {g f c' : Addr} {cdg pm ctv : Value} {params : Arguments} {body : Expr} {scope : Scope} {k i : Nat} {a : Str} {pn : List (Addr × Obj)} {xe : Value → Shared → Prop} {W : WX} {tb : XK → TE} {p1 p2 : Pos}
    (I : Inv X pins σ H1 s1) (L : LamX.LamS X.env.scope scope) (hf : s1.heap.get? f = some (lmO X params body scope pm c' ctv)) (hn : H1 f = none) (hfr : f ∉ frs X.stack)
    (hbind : ∀ (q : Str) (cl : List (Str × Addr)) (pm cv ctv : Value), bindArgs (PySem.W.kla_fn "<lambda>" q params body scope cl pm cv ctv) ⟨[], []⟩ = pure [])
    (tk : Takes ((cxOf CXg X.prog X.w X.K X.mg X.base Ng qg sg g cdg X.A X.stack s1 H1 Eg).tr pn xe) W) (hr : Room (k + 1) (X.A.deeper (envOfC qg sg s1.heap.objs.size g cdg)))
    (hbody : ∀ (A : Around) (outer : List Env) (s : Shared) (H : Hp) (E : XK), Room k (A.deeper (LamX.lamEnv X scope s.heap.objs.size f c')) → PE (LamX.lamCx X A outer s H E scope f c') body (tb E))
    (hN : Ng[i]? = some a) (hv : Vis sg a) (hd : (a == ("__debug__" : Str)) = false) (hcd : (a == ("__classdict__" : Str)) = false) :
    PE ((cxOf CXg X.prog X.w X.K X.mg X.base Ng qg sg g cdg X.A X.stack s1 H1 Eg).tr pn xe) (.Call (.Name a p1) [] [] p2)
      (fun σZ HZ Q => σZ[i]? = some (some (.ref f)) ∧ HZ c' = some (LamX.CodeO c' (X.env.qual ++ "<lambda>")) ∧ tb (WE W σZ) σ HZ Q) := by
  refine ⟨fun pz sz σZ HZ Q IZ ⟨g1, g2, g3⟩ => ?_⟩
  refine wpAny_Call_Name_kw (thn ((pe_var (i := i) (pos := p1) hN hv hd hcd).run pz sz σZ HZ (fun v H2 => v = .ref f ∧ H2 = HZ) IZ ⟨.ref f, g1, rfl, rfl⟩) fun u s2 ⟨v, H2, I2, rv, ev, eh⟩ => ?_)
  subst ev eh
  cases (show u = Value.ref f from rv)
  have at_ : s2.heap.get? f = some (lmO X params body scope pm c' ctv) := I2.base.keep f _ hf hn hfr (fun z => nomatch (show f ∈ ([] : List Addr) from z))
  refine PySem.W.callWith_F0 ⟨_, _, _, _, at_⟩ ?_
  have un : Un (frs X.stack) [] H1 H2 s1.heap s2.heap := I2.base
  obtain ⟨⟨oc, vs, t, k1, k2, k3⟩, _, _⟩ := I2.hok c' _ g2
  refine wpAny_call (codeAny_mono (R := CR (L2.CX X.prog X.w) (envOfC qg sg s1.heap.objs.size g cdg :: X.stack) X.prog X.w H2 s2 Q (WE W σZ)) ?_ fun r s' hq => ?_)
  · refine PySem.W.kla_callFunE hr.depth at_ rfl L.co L.gen rfl ⟨c', oc, vs, t, rfl, k1, k2, k3⟩ ?_
    rw [show bindArgs (PySem.W.kla_fn "<lambda>" (X.env.qual ++ "<lambda>") params body scope (cloFrom X.env.cells scope.names []) pm (.ref c') ctv) { pos := [] ++ [] } = pure [] from hbind _ _ _ _ _]
    refine wpAny_pure (wpAny_newFunctionEnv (fun y hy => (L.own y hy).2) (fun y hy => absurd hy (by simp)) (fun h₁ hns hsb => ⟨I2.nolimit.fresh _ hsb, ?_⟩) L.kind)
    have kp : ∀ b o, s2.heap.get? b = some o → h₁.get? b = some o := fun b o e => hsb.extBut b o (Nat.ne_of_lt (Heap.lt_size e)) (Heap.get?_push_of_some _ e)
    refine PySem.W.kla_codeExpr (wpAny_mono ((hbody _ _ s2 H2 _ (hr.deeper _)).run [] _ _ H2 Q (LamX.lam_start2 (tk := s2.toks) I L I2.env0 hr.hd un hns kp) g3) (fun v s' ⟨w', H', J', rv, q⟩ => ⟨w', H', J'.os, J'.bare, J'.base, J'.hok, rv, q⟩) fun e s' hq => hq)
  · cases r with
    | error e => exact passAt tk σZ pz H2 s2 e s' I2 hq
    | ok fl =>
      cases fl with
      | ret u => exact I2.after hq
      | next => exact hq.elim
      | brk => exact hq.elim
      | cont => exact hq.elim
end

/-! ### by data -/
def noOwn (sl : List Slot) : List Slot := sl.map fun s => match s with
  | .own _ => .un
  | s => s
/-- what the lambda does, by the dice alone -/
def thkG (sl : List Slot) (fe : LSt → Res D) : G → FR := fun g => match fe ⟨noOwn sl, g⟩ with
  | .ok d l => .ok (.v d) l.g
  | .ex x l => .ex x l.g
  | .bad => .bad
/-- x(), x the def's own parameter -/
def sTk (i : Nat) (t : G → FR) : LSt → Res D := fun l => match l.sl[i]? with
  | some .fn => frRes l (t l.g)
  | _ => .bad
def mThk (n : Nat) (fb : (G → FR) → LSt → Fl) : (G → FR) → G → FR := fun t g => (fb t ⟨.fn :: List.replicate (n - 1) .un, g⟩).fr
def sThk (m : (G → FR) → G → FR) (fe : LSt → Res D) : LSt → Res D := fun l => frRes l (m (thkG l.sl fe) l.g)
theorem noOwn_get {sl : List Slot} {j : Nat} {s : Slot} (h : (noOwn sl)[j]? = some s) : isOwn s = false ∧ (s = .un ∨ sl[j]? = some s) ∧ ∃ s0, sl[j]? = some s0 := by
  unfold noOwn at h
  rw [List.getElem?_map, Option.map_eq_some_iff] at h
  obtain ⟨s0, e, h⟩ := h
  cases s0 <;> (simp only at h; subst h; first | exact ⟨rfl, .inl rfl, _, e⟩ | exact ⟨rfl, .inr e, _, e⟩)
section
variable {c : Ac} {W : WX} {Hf H : Hp} {σ : L2.St} {l : LSt}
theorem endW_of {Q : VK} {fr : FR} (R : REnv c Hf σ H l) (h : wpR (frRes l fr) (PD c σ Q Hf) (PX c W σ Hf)) : EndW c.toCn c.ad l.g H Hf (LkP Q) (WE W σ) fr := by
  cases fr with
  | bad => exact h
  | ex x g => exact fun cls dd H' Hf' A rx => h cls dd H' Hf' (R.after A) A.grow rx
  | ok ev g =>
    intro v H' Hf' A rv
    cases ev with
    | v d => exact .inl (h v H' Hf' (R.after A) A.grow rv)
    | o co =>
      obtain ⟨a, o, rfl, ha, rc, n, nH, nd⟩ := rv
      have n0 : c.hid a = none := by
        cases e0 : c.hid a with
        | none => rfl
        | some u =>
          have := (R.frame a u e0).1
          rw [nH] at this
          cases this
      refine rc.lkp ha fun od => h _ _ _ ((R.after A).see _ ha n n0 nd ?_) (A.grow.trans (same_upd n)) (rc.val od n)
      intro j s hj ho e'
      cases s with
      | own co' =>
        obtain ⟨a', o', e2, ha', _⟩ := R.own (i := j) hj
        rw [e2] at e'
        cases e'
        rw [nH] at ha'
        cases ha'
      | _ => cases ho
/-- the maker's slots, seen from within the lambda -/
theorem REnv.inner {Hf3 HZ : Hp} {g : G} (R : REnv c Hf σ H l) (s : Same Hf Hf3) (s2 : Same Hf3 HZ) (d : DiceOk c.toCn Hf3 HZ c.ad g) :
    REnv { toCn := c.toCn, hid := hidOf c.toCn HZ Hf3 g c.ad, Hf0 := Hf3, ad := c.ad, gs := g.sh } Hf3 σ HZ ⟨noOwn l.sl, g⟩ where
  len := by
    show σ.length = (noOwn l.sl).length
    unfold noOwn
    rw [List.length_map]
    exact R.len
  slot := fun i x h => by
    obtain ⟨no, h1, s0, h2⟩ := noOwn_get h
    rcases h1 with h1 | h1
    · subst h1
      obtain ⟨x, e, _⟩ := R.slot i s0 h2
      exact ⟨x, e, True.intro⟩
    · obtain ⟨y, e, q⟩ := R.slot i x h1
      refine ⟨y, e, ?_⟩
      cases x with
      | un => exact True.intro
      | v d =>
        obtain ⟨v, e2, r⟩ := q
        exact ⟨v, e2, r.mono s⟩
      | slf => exact q
      | fn => exact q
      | er _ _ => exact q.mono s
      | own _ => cases no
  dis := fun i j x y a hi _ o _ _ _ => by
    have := (noOwn_get hi).1
    rw [o] at this
    cases this
  sub := s2
  base := Same.refl _
  frame := fun _ _ h => hidOf_some h
  dice := d
  hgs := rfl
theorem DiceOk.reFn {cn : Cn} {ad ad' : Ad} {Hf' H' : Hp} {g : G} (d : DiceOk cn Hf' H' ad g) (h1 : ad'.d = ad.d) (h2 : ad'.oa = ad.oa) (h3 : ad'.od = ad.od) : DiceOk cn Hf' H' ad' g := by
  refine ⟨fun x y z e => by rw [h1]; exact d.dc x y z e, fun n fs e => ?_, d.tb⟩
  rw [h2, h3]
  obtain ⟨q1, q2, q3, q4, us, q5, q6, q7⟩ := d.obj n fs e
  exact ⟨q1, q2, q3, q4, us, q5, q6, fun i d e => by
    obtain ⟨v, e1, e2⟩ := q7 i d e
    exact ⟨v, e1, e2.re h1⟩⟩
theorem EndW.reFn {cn : Cn} {ad ad' : Ad} {g : G} {H Hf : Hp} {Q : VK} {E : XK} (h1 : ad'.d = ad.d) (h2 : ad'.oa = ad.oa) (h3 : ad'.od = ad.od) : ∀ {fr : FR}, EndW cn ad g H Hf Q E fr → EndW cn ad' g H Hf Q E fr := by
  have isd : ∀ {g : G} {a : Addr}, isD cn g ad' a ↔ isD cn g ad a := fun {g a} => by
    unfold isD
    rw [h1, h2, h3]
  have aft : ∀ {g g' : G} {H Hf H' Hf' : Hp}, Aft cn ad' g g' H Hf H' Hf' → Aft cn ad g g' H Hf H' Hf' := fun {g g' H Hf H' Hf'} A =>
    ⟨A.grow, A.sub, fun a o e1 e2 e3 => A.frame a o e1 e2 fun z => e3 (isd.mp z), A.dice.reFn h1.symm h2.symm h3.symm, A.hgs⟩
  intro fr h
  cases fr with
  | bad => exact h
  | ok e g' =>
    intro v H' Hf' A rv
    refine h v H' Hf' (aft A) ?_
    cases e with
    | v d => exact RVal.re h1.symm _ _ rv
    | o co =>
      obtain ⟨a, o, q1, q2, q3, q4, q5, q6⟩ := rv
      refine ⟨a, o, q1, q2, ?_, q4, q5, fun z => q6 (isd.mpr z)⟩
      cases co with
      | lst ds =>
        obtain ⟨vs, w1, w2⟩ := q3
        exact ⟨vs, w1, RVals.re h1.symm _ _ w2⟩
      | dK ks ds =>
        obtain ⟨vs, w1, w2, w3⟩ := q3
        exact ⟨vs, w1, w2, RVals.re h1.symm _ _ w3⟩
      | dT ks ds =>
        obtain ⟨vs, w1, w2, w3⟩ := q3
        exact ⟨vs, w1, w2, RVals.re h1.symm _ _ w3⟩
  | ex x g' =>
    intro cls dd H' Hf' A rx
    refine h cls dd H' Hf' (aft A) ?_
    obtain ⟨q1, q2⟩ := rx
    refine ⟨q1, ?_⟩
    rcases q2 with q2 | ⟨d, a, v, q3, q4, q5, q6⟩
    · exact .inl q2
    · exact .inr ⟨d, a, v, q3, q4, q5, RVal.re h1.symm _ _ q6⟩
/-- the lambda called by a callee: its reading by data -/
theorem thk_run {cn : Cn} {ad2 : Ad} {c2 : Ac} {Hf3 HZ : Hp} {σZ : L2.St} {l3 : LSt} {fe : LSt → Res D} {W2 : WX} {Q : VK} (R : REnv c Hf σ H l) (hc : c.toCn = cn) (h2 : c2.toCn = cn) (ha : c2.ad = { c.ad with fn := ad2.fn }) (hb : c2.Hf0 = Hf) (R3 : REnv c2 Hf3 σZ HZ l3)
    (h : wpR (frRes l3 (thkG l.sl fe l3.g)) (PD c2 σZ Q Hf3) (PX c2 W2 σZ Hf3)) :
    tD { toCn := c.toCn, hid := hidOf c.toCn HZ Hf3 l3.g c.ad, Hf0 := Hf3, ad := c.ad, gs := l3.g.sh } (fun cls d _ H' => WE W2 σZ cls d H') fe σ HZ Q := by
  subst hc
  have had : ∀ {a : Addr} {g : G}, isD c.toCn g c.ad a ↔ isD c2.toCn g c2.ad a := fun {a g} => by rw [h2, ha]; exact Iff.rfl
  have dco : ∀ {Hf' H' : Hp} {g : G}, DiceOk c2.toCn Hf' H' c2.ad g → DiceOk c.toCn Hf' H' c.ad g := fun {Hf' H' g} d => by
    rw [h2] at d
    exact d.reFn (by rw [ha]) (by rw [ha]) (by rw [ha])
  have dco2 : ∀ {Hf' H' : Hp} {g : G}, DiceOk c.toCn Hf' H' c.ad g → DiceOk c2.toCn Hf' H' c2.ad g := fun {Hf' H' g} d => by
    rw [h2]
    exact d.reFn (by rw [ha]) (by rw [ha]) (by rw [ha])
  have s13 : Same Hf Hf3 := by rw [← hb]; exact R3.base
  have RI := R.inner s13 R3.sub (dco R3.dice)
  refine ⟨Hf3, ⟨noOwn l.sl, l3.g⟩, RI, ?_⟩
  have aft : ∀ {H' Hf' : Hp} {l' : LSt}, REnv { toCn := c.toCn, hid := hidOf c.toCn HZ Hf3 l3.g c.ad, Hf0 := Hf3, ad := c.ad, gs := l3.g.sh } Hf' σ H' l' → REnv c2 Hf' σZ H' (l3.withG l'.g) := fun {H' Hf' l'} R' =>
    R3.after ⟨R'.base, R'.sub, fun a o e1 e2 e3 => ⟨(R'.frame a o (hidOf_of e1 e2 fun z => e3 (had.mp z))).1, (R'.frame a o (hidOf_of e1 e2 fun z => e3 (had.mp z))).2.1⟩, dco2 R'.dice, R'.hgs⟩
  have re : c2.ad.d = c.ad.d := by rw [ha]
  unfold thkG at h
  cases e : fe ⟨noOwn l.sl, l3.g⟩ with
  | bad =>
    rw [e] at h
    exact h
  | ok d l' =>
    rw [e] at h
    intro v H' Hf' R' s' rv
    exact h v H' Hf' (aft R') s' (by rw [h2]; exact rv.re re)
  | ex x l' =>
    rw [e] at h
    intro cls dd H' Hf' R' s' rx
    refine h cls dd H' Hf' (aft R') s' ?_
    obtain ⟨q1, q2⟩ := rx
    refine ⟨by rw [h2]; exact q1, ?_⟩
    rcases q2 with q2 | ⟨d, a, v, q3, q4, q5, q6⟩
    · exact .inl q2
    · exact .inr ⟨d, a, v, q3, q4, by rw [h2]; exact q5, by rw [h2]; exact q6.re re⟩
end

/-! ### f(lambda: e) -/
/-- the def at x calls what it gets -/
structure ThkOk (P : Program) (w : World) (K : PySem.W.Frag) (mg : Str → Option Value) (base : Heap) (cn : Cn) (k : Nat) (x : Str) (m : (G → FR) → G → FR) : Prop where
  ex : ∃ (g : Addr) (fd : FuncData) (params : Arguments) (body : List Stmt) (scope : Scope) (Ng : List Str) (a : Str) (n : Nat) (fb : (G → FR) → LSt → Fl),
    FunD K x x params body scope [] [] g fd ∧ mg x = some (.ref g) ∧ L2.Binds K fd [a] [] ∧ FnScope Ng [a] scope ∧ Ng[0]? = some a ∧ Ng.length = n ∧ Vis scope a ∧ (a == ("__debug__" : Str)) = false ∧ (a == ("__classdict__" : Str)) = false ∧ m = mThk n fb ∧
    ∀ (cdv : Value) (A : Around) (outer : List Env) (s : Shared) (H : Hp) (E : XK) (c : Ac) (t : G → FR), Ctx (cxOf (L2.CX P w) P w K mg base Ng x scope g cdv A outer s H E) c (fun cls d _ H' => E cls d H') cn k →
      (∀ (W2 : WX) (pn : List (Addr × Obj)) (xe : Value → Shared → Prop) (p1 p2 : Pos), Takes ((cxOf (L2.CX P w) P w K mg base Ng x scope g cdv A outer s H E).tr pn xe) W2 →
        DE ((cxOf (L2.CX P w) P w K mg base Ng x scope g cdv A outer s H E).tr pn xe) c W2 (.Call (.Name a p1) [] [] p2) (sTk 0 t)) →
      DSs (cxOf (L2.CX P w) P w K mg base Ng x scope g cdv A outer s H E) c (fun cls d _ H' => E cls d H') body (fb t)
theorem lamCx_takes {X : Cx} {A : Around} {outer : List Env} {s : Shared} {H : Hp} {E : XK} {scope : Scope} {f c' : Addr} : Takes (LamX.lamCx X A outer s H E scope f c') (fun cls d _ H => E cls d H) := takes_of rfl rfl rfl rfl
theorem lamCx_passes {X : Cx} {A : Around} {outer : List Env} {s : Shared} {H : Hp} {E : XK} {scope : Scope} {f c' : Addr} : PassesOwn (model X.prog X.w) (LamX.lamCx X A outer s H E scope f c').A (LamX.lamCx X A outer s H E scope f c').env (LamX.lamCx X A outer s H E scope f c').xe := passes_of rfl
section
variable {X : Cx} {c : Ac} {W : WX} {cn : Cn} {k : Nat} {x q : Str} {m : (G → FR) → G → FR} {fe : LSt → Res D} {params : Arguments} {body : Expr} {scope : Scope} {p lpos pos : Pos} {cc P : Addr}
theorem lamCtx (Z : Ctx X c W cn (k + 2)) {A : Around} {outer : List Env} {s : Shared} {H : Hp} {E : XK} {f c' : Addr} {c1 : Ac} (e1 : c1.toCn = cn) (hr : Room k (A.deeper (LamX.lamEnv X scope s.heap.objs.size f c'))) :
    Ctx (LamX.lamCx X A outer s H E scope f c') c1 (fun cls d _ H' => E cls d H') cn k where
  hK := by
    show X.K = c1.toCn.K
    rw [e1, ← Z.hc]
    exact Z.hK
  hc := e1
  hr := hr
  tk := lamCx_takes (X := X) (A := A) (outer := outer) (s := s) (H := H) (E := E) (scope := scope) (f := f) (c' := c')
  calm := rfl
  nd := Z.nd
  pass := lamCx_passes (X := X) (A := A) (outer := outer) (s := s) (H := H) (E := E) (scope := scope) (f := f) (c' := c')
theorem thk_body (Z : Ctx X c W cn (k + 2)) {f c' : Addr}
    (hbody : ∀ (A : Around) (outer : List Env) (s : Shared) (H : Hp) (E : XK) (f c' : Addr) (c1 : Ac), Ctx (LamX.lamCx X A outer s H E scope f c') c1 (fun cls d _ H' => E cls d H') cn k → DE (LamX.lamCx X A outer s H E scope f c') c1 (fun cls d _ H' => E cls d H') body fe)
    (A : Around) (outer : List Env) (s : Shared) (H : Hp) (E : XK) (hr : Room k (A.deeper (LamX.lamEnv X scope s.heap.objs.size f c'))) :
    PE (LamX.lamCx X A outer s H E scope f c') body (fun σ0 H0 Q0 => ∃ c1 : Ac, c1.toCn = cn ∧ tD c1 (fun cls d _ H' => E cls d H') fe σ0 H0 Q0) :=
  ⟨fun pz sz σz Hz Qz Iz h => by
    obtain ⟨c1, e1, hz⟩ := h
    exact (hbody A outer s H E f c' c1 (lamCtx Z e1 hr)).pe.run pz sz σz Hz Qz Iz hz⟩
theorem e_thk (Z : Ctx X c W cn (k + 2)) (T : ThkOk X.prog X.w X.K X.mg X.base cn (k + 1) x m) (TB : LamX.TabB X.base X.mg cc P) (hcode : X.env.code = .ref cc) (hq : cn.tq P = some (X.env.qual ++ "<lambda>"))
    (hbody : ∀ (A : Around) (outer : List Env) (s : Shared) (H : Hp) (E : XK) (f c' : Addr) (c1 : Ac), Ctx (LamX.lamCx X A outer s H E scope f c') c1 (fun cls d _ H' => E cls d H') cn k → DE (LamX.lamCx X A outer s H E scope f c') c1 (fun cls d _ H' => E cls d H') body fe)
    (L : LamX.LamS X.env.scope scope) (hdef : defaultsOf params X.env = ([], []) := by rfl)
    (hbind : ∀ (q : Str) (cl : List (Str × Addr)) (pm cv ctv : Value), bindArgs (PySem.W.kla_fn "<lambda>" q params body scope cl pm cv ctv) ⟨[], []⟩ = pure [] := by intros; rfl)
    (hg : Gl X x := by rfl) (hdb : (x == ("__debug__" : Str)) = false := by decide) : DE X c W (.Call (.Name x p) [.Lambda params body scope lpos] [] pos) (sThk m fe) := by
  obtain ⟨g, fd, prm, bd, sc, Ng, a, n, fb, F, hm, hb, S, hN, hn, hv, hd1, hd2, rfl, hB⟩ := T.ex
  obtain ⟨oc, od, dV, kV, doc, pm0, an, cdv, ct, osl, rfl, lk, hcd, _, _⟩ := F.ex
  refine ⟨(pe_fz (t := fun σ H Q => ∃ Hf l, REnv c Hf σ H l ∧ ∀ Hf1 H1, REnv c Hf1 σ H1 l → Same Hf Hf1 → EndW c.toCn c.ad l.g H1 Hf1 Q (WE W σ) (mThk n fb (thkG l.sl fe) l.g)) ⟨fun pins s σ H Q I h => ?_⟩).imp' fun σ H Q ⟨Hf, l, R, h⟩ => ⟨Hf, l, R, fun Hf1 H1 R1 s1 => endW_of R1 (wpR.mono PD.mo s1 h)⟩⟩
  obtain ⟨Hf, l, R, h⟩ := h
  refine wpAny_Call_Name_kw (ld_glob I hg hm ?_ hdb)
  refine PySem.W.callWith_K (h₀ := X.base) I.ok.mod.kin F.kp ?_ (by rfl) (by rfl)
  show wpAny _ _ (spliced ((false, eval (.Lambda params body scope lpos) X.env) :: backTo pos (starEach [] X.env))) _ _ s
  obtain ⟨_, ps, t1, t2, t3⟩ := R.dice.tb.lam P _ (by rw [Z.hc]; exact hq)
  -- the def is called with the lambda at f
  have go : ∀ (f c' : Addr) (pm ctv : Value) (H1 Hf1 : Hp) (s' : Shared), L2.Inv X pins σ H1 s' → REnv c Hf1 σ H1 l → Same Hf Hf1 → Hf1 c' = some (LamX.CodeO c' (X.env.qual ++ "<lambda>")) → s'.heap.get? f = some (lmO X params body scope pm c' ctv) → H1 f = none → f ∉ frs X.stack →
      wpAny (model X.prog X.w) X.A (spliced (backTo pos (starEach [] X.env))) (fun vs s₁ => X.K.In s₁.heap ∧ wpAny (model X.prog X.w) X.A (call (.ref g) ([] ++ (.ref f :: vs))) (EP X pins σ Q) X.xe s₁) X.xe s' := by
    intro f c' pm ctv H1 Hf1 s' I1 R1 s1 hco hf hfn hfr
    refine Calls.spliced_nil ⟨I1.kIn, ?_⟩
    refine wpAny_call (codeAny_mono (LamX.run_ofS (CX := L2.CX X.prog X.w) (outer := X.stack) (E := WE W σ) (Q := Q) (N := Ng) (ps := [a]) (us := [.ref f]) (vs := [.ref f]) lk hcd S (k := k + 1) Z.hr.toRoom I1.env0 (hb s' [.ref f] I1.kIn rfl) (.cons rfl .nil) rfl fun hr0 => ?_) fun r s2 hq => ?_)
    · have hr' : Room (k + 1) (X.A.deeper (envOfC x sc s'.heap.objs.size g cdv)) := ⟨hr0, Z.hr.gd⟩
      have dd : DiceOk cn Hf1 H1 { c.ad with fn := f } l.g := by
        have := R1.dice
        rw [Z.hc] at this
        exact this.reFn rfl rfl rfl
      obtain ⟨c2, hc2⟩ : ∃ c2 : Ac, c2 = { toCn := cn, hid := hidOf cn H1 Hf1 l.g { c.ad with fn := f }, Hf0 := Hf1, ad := { c.ad with fn := f }, gs := l.g.sh } := ⟨_, rfl⟩
      have hK2 : X.K = c2.K := by rw [hc2]; exact Z.hK.trans (by rw [← Z.hc])
      refine ⟨_, (hB cdv X.A X.stack s' H1 (WE W σ) c2 (thkG l.sl fe) ⟨hK2, by rw [hc2], hr', takes_of rfl rfl rfl rfl, rfl, S.nd, passes_of rfl⟩ fun W2 pn xe p1 p2 tk => ?_).pss, ?_⟩
      · refine ⟨(thk_act (i := 0) (k := k) (tb := fun E σ0 H0 Q0 => ∃ c1 : Ac, c1.toCn = cn ∧ tD c1 (fun cls d _ H' => E cls d H') fe σ0 H0 Q0) I1 L hf hfn hfr hbind tk hr' (thk_body Z hbody) hN hv hd1 hd2).imp' fun σZ HZ Q2 ⟨Hf3, l3, R3, h3⟩ => ?_⟩
        · unfold sTk at h3
          cases e : l3.sl[0]? with
          | none =>
            rw [e] at h3
            exact h3.elim
          | some s0 =>
            rw [e] at h3
            cases s0 with
            | fn =>
              obtain ⟨y, ey, q⟩ := R3.slot 0 _ e
              have q : y = some (.ref c2.ad.fn) := q
              have hfn2 : c2.ad.fn = f := by rw [hc2]
              rw [hfn2] at q
              have hbs : Same Hf1 Hf3 := by
                have := R3.base
                rw [hc2] at this
                exact this
              exact ⟨by rw [ey, q], R3.sub _ _ (hbs _ _ hco), { toCn := c.toCn, hid := hidOf c.toCn HZ Hf3 l3.g c.ad, Hf0 := Hf3, ad := c.ad, gs := l3.g.sh }, Z.hc, thk_run (cn := cn) (ad2 := { c.ad with fn := f }) R1 Z.hc (by rw [hc2]) (by rw [hc2]) (by rw [hc2]) R3 h3⟩
            | _ => exact h3.elim
      · rw [hc2]
        refine ⟨Hf1, ⟨.fn :: List.replicate (n - 1) .un, l.g⟩, ?_, ends_ok ?_⟩
        · refine ⟨?_, fun i y hy => ?_, fun i j y z b hy hz o _ _ _ => ?_, R1.sub, Same.refl _, fun _ _ h => hidOf_some h, dd, rfl⟩
          · unfold L2.start
            simp only [List.length_append, List.length_map, List.length_replicate, List.length_cons, List.length_nil, hn]
            omega
          · cases i with
            | zero =>
              cases hy
              exact ⟨some (.ref f), rfl, rfl⟩
            | succ i =>
              have hy : (List.replicate (n - 1) Slot.un)[i]? = some y := hy
              rw [List.getElem?_replicate] at hy
              split at hy
              · rename_i hi
                cases hy
                refine ⟨none, ?_, True.intro⟩
                show (List.replicate (Ng.length - 1) none)[i]? = some none
                rw [List.getElem?_replicate, hn, if_pos hi]
              · cases hy
          · exfalso
            cases i with
            | zero =>
              cases hy
              cases o
            | succ i =>
              have hy : (List.replicate (n - 1) Slot.un)[i]? = some y := hy
              rw [List.getElem?_replicate] at hy
              split at hy
              · cases hy
                cases o
              · cases hy
        · have hw := h Hf1 H1 R1 s1
          rw [Z.hc] at hw
          exact EndW.reFn (ad := c.ad) (ad' := { c.ad with fn := f }) rfl rfl rfl hw
    · cases r with
      | error e => exact passAt Z.tk σ pins H1 s' e s2 I1 hq
      | ok fl =>
        cases fl with
        | ret u => exact I1.after hq
        | next => exact hq.elim
        | brk => exact hq.elim
        | cont => exact hq.elim
  refine Calls.spliced_cons (lam_new I TB hcode hdef (L.has I.ok) t1 t2 (fun cv h2 => ⟨_, (t3 _ _ h2).choose_spec.1⟩) (fun f c' pm ctv s' hc' I1 hf hfn hfr => ?_) fun f c' pm ctv s' nc I1 hf hfn hfr => ?_)
  · obtain ⟨c0, e1, e2⟩ := t3 _ _ hc'
    cases e1
    exact go f c' pm ctv H Hf s' I1 R (Same.refl _) e2 hf hfn hfr
  · exact go f c' pm ctv _ _ s' I1 (R.lam (pos := lpos) (by rw [Z.hc]; exact hq) t1 nc) (same_upd (R.sub.free nc)) upd_same hf hfn hfr
end
end Dx

/-! Dx.Try: try with several clauses, named ones among them. -/
namespace Dx
open PySem PySem.Spec PyProof.Rows L2

/-- behind a suite the name of the error goes -/
abbrev offN (D : Ends) (i : Nat) : Ends := { nx := fun σ H => D.nx (σ.set i none) H, rt := D.rt, bk := fun σ H => D.bk (σ.set i none) H, ct := fun σ H => D.ct (σ.set i none) H }
abbrev ClT := Value × Option Nat × (Addr → Value → Option Addr → TS)
def wCl (K : PySem.W.Frag) (Wout : WX) (D : Ends) : List ClT → WX
  | [] => Wout
  | (c, oi, ts) :: r => fun cls d σ H => ∃ b, PySem.W.exmOne K cls c = some b ∧
      (b = true → ∀ a, H a = none → match oi with
        | none => ts a cls d D σ H
        | some i => ts a cls d (offN D i) (σ.set i (some (.ref a))) H) ∧ (b = false → wCl K Wout D r cls d σ H)
/-- the suite of a clause -/
abbrev SuOk (X : Cx) (ss : List Stmt) (ts : Addr → Value → Option Addr → TS) : Prop :=
  ∀ (a : Addr) (oe : Obj) (cls : Value) (d : Option Addr) (pn : List (Addr × Obj)), Zc cls d oe → (∃ vs, oe.data = .fields vs) → PSs (X.suite a ((a, oe) :: pn)) ss (ts a cls d)
inductive ClOk (X : Cx) : List ExceptHandler → List ClT → Prop
  | nil : ClOk X [] []
  | one {x : Str} {c : Value} {ts : Addr → Value → Option Addr → TS} {st : Stmt} {ss : List Stmt} {p1 p2 : Pos} {hds : List ExceptHandler} {l : List ClT} (hc : Names X x c) (hs : SuOk X (st :: ss) ts) (r : ClOk X hds l) :
      ClOk X (.ExceptHandler (some (.Name x p1)) none (st :: ss) p2 :: hds) ((c, none, ts) :: l)
  | nam {x n : Str} {i : Nat} {c : Value} {ts : Addr → Value → Option Addr → TS} {st : Stmt} {ss : List Stmt} {p1 p2 : Pos} {hds : List ExceptHandler} {l : List ClT} (hi : X.N[i]? = some n) (hl : X.env.kindOf n = some .local) (hc : Names X x c) (hs : SuOk X (st :: ss) ts)
      (r : ClOk X hds l) : ClOk X (.ExceptHandler (some (.Name x p1)) (some n) (st :: ss) p2 :: hds) ((c, some i, ts) :: l)
section
variable {X : Cx} {body : List Stmt} {h0 : ExceptHandler} {hds : List ExceptHandler} {l : List ClT} {pos : Pos} {tb : WX → TS} {Wout : WX}
theorem ps_tryC (est : X.stack = X.env :: X.outer) (efr : X.env.frame = some X.env.locals) (nd : X.N.Nodup) (tk : Takes X Wout)
    (hb : ∀ (W : WX) (pn : List (Addr × Obj)) (xe : Value → Shared → Prop), Takes (X.tr pn xe) W → PassesOwn (model X.prog X.w) X.A X.env xe → PSs (X.tr pn xe) body (tb W)) (hh : ClOk X (h0 :: hds) l) :
    PS X (.Try body (h0 :: hds) [] [] pos) (fun D σ H => tb (wCl X.K Wout D l) D σ H) := by
  refine ⟨fun pins s σ H D I h => wpAny_Try_except ?_⟩
  have ok := I.ok
  have efs : X.A.frames = some (X.env :: X.outer) := by rw [ok.frames, est]
  have J0 := I.toTry (fun e s₁ => wpAny (model X.prog X.w) X.A (noteFrame e X.env) (fun _ s₂ => wpAny (model X.prog X.w) X.A (setFlight e none) (fun _ s₃ => wpAny (model X.prog X.w) X.A (handleBy e X.env (h0 :: hds)) (SP X pins D) X.xe s₃) X.xe s₂) X.xe s₁)
  refine wpAny_mono ((hb (wCl X.K Wout D l) (X.pn ++ pins) _ (fun u s1 air => ?_) PassesOwn.looking).run [] s σ H D J0 h) (fun fl s1 q => ?_) (fun e s1 q => q)
  · obtain ⟨a, B, sI, ps', σ1, H1, cls, d, rfl, J', below, up, sky, an, eos, agens, wish⟩ := air
    have J : L2.Inv X pins σ1 H1 sI := J'.ofTry ok
    have sky2 : Sky B (X.env :: X.outer) a (Zc cls d) X.env.locals s1.heap := by rw [← est]; exact sky
    show wpAny (model X.prog X.w) X.A (noteFrame (.ref a) X.env) _ _ _
    refine Sky.land Zc.steady efs efr sky2 fun h2 fly up2 => ?_
    have up12 := up.trans up2
    have JA : L2.Inv X pins σ1 H1 { s1 with heap := h2 } := J.landed below fly.1 up12 eos agens
    obtain ⟨oe, vs, get, zc, dat⟩ := fly.there
    have apart : a ∉ frs (X.env :: X.outer) := fun hm => by
      obtain ⟨_, o', e', nf⟩ := fly.2.2.1.mem hm
      rw [get] at e'
      cases e'
      exact nf _ dat
    have aL : a ≠ X.env.locals := fun z => apart (List.mem_filterMap.mpr ⟨X.env, List.mem_cons_self, by rw [efr, z]⟩)
    have aF : a ∉ X.fs := fun hm => by
      obtain ⟨e, he, q⟩ := List.mem_filterMap.mp hm
      exact apart (List.mem_filterMap.mpr ⟨e, List.mem_cons_of_mem _ he, q⟩)
    have SA := JA.suite get dat an aL aF
    have tyA : PySem.W.Looks (model X.prog X.w) h2 (typeOf (.ref a)) cls := fun A Q E s k q => wpAny_typeOf_ref (k _ _ get) (by rw [zc.1]; exact q)
    have nameAt : ∀ {x : Str} {c : Value} {np : Pos} {Q : Value → Shared → Prop} {E : Value → Shared → Prop}, Names X x c → Q c { s1 with heap := h2 } → wpAny (model X.prog X.w) (X.A.mark (some (.ref a))) (eval (.Name x np) X.env) Q E { s1 with heap := h2 } := fun {x c np Q E} hc q => by
      obtain ⟨hg, hdb, hm | ⟨hm, hv, hn⟩⟩ := hc
      · exact ld_glob (X := X.suite a ((a, oe) :: (X.pn ++ pins))) SA hg hm q hdb
      · exact ld_blt (X := X.suite a ((a, oe) :: (X.pn ++ pins))) SA hg hm hv q hn hdb
    have enter : ∀ {Q : Shared → Prop} {E : Value → Shared → Prop} {A : Around}, (∀ h3 oe3, Zc cls d oe3 → (∃ vs, oe3.data = .fields vs) → L2.Inv (X.suite a ((a, oe3) :: (X.pn ++ pins))) [] σ1 H1 { s1 with heap := h3 } → Q { s1 with heap := h3 }) →
        wpAny (model X.prog X.w) A (setFlight (.ref a) none) (fun _ s' => Q s') E { s1 with heap := h2 } := fun {Q E A} hq => HandSPX.lands_againZ fly fun h3 fly3 up3 => by
      obtain ⟨oe3, vs3, get3, zc3, dat3⟩ := fly3.there
      have J3 : L2.Inv X pins σ1 H1 { s1 with heap := h3 } := J.landed below fly3.1 (up12.trans up3) eos agens
      exact hq h3 oe3 zc3 ⟨_, dat3⟩ (J3.suite get3 dat3 an aL aF)
    have walk : ∀ {hs' : List ExceptHandler} {l' : List ClT}, ClOk X hs' l' → wCl X.K Wout D l' cls d σ1 H1 → wpAny (model X.prog X.w) X.A (handleBy (.ref a) X.env hs') (SP X pins D) X.xe { s1 with heap := h2 } := by
      intro hs' l' k
      induction k with
      | nil =>
        intro w
        refine wpAny_handleBy_nil ?_
        obtain ⟨_, _, _, o5, v5, T, oT, ts, g5, z5, d5, n5, _⟩ := id fly
        unfold PySem.passOn
        refine wpAny_bind (wpAny_field g5 d5 n5 ?_)
        rw [if_neg (show ¬ ((Value.ref T == Value.none) = true) from by simp)]
        have off : wpAny (model X.prog X.w) X.A (setFlight (.ref a) X.env.frame) (fun _ s4 => wpAny (model X.prog X.w) X.A (throw (.ref a) : Sem Flow) (SP X pins D) X.xe s4) X.xe { s1 with heap := h2 } := by
          rw [efr]
          exact HandSPX.setFlight_upZ fly fun h4 held up4 => wpAny_throw (tk _ _ ⟨a, B, sI, pins, σ1, H1, cls, d, rfl, J, below, up12.trans up4, .inr (.inr (by rw [est]; exact held)), an, eos, agens, w⟩)
        first
          | exact wpAny_bind (wpAny_pure (wpAny_bind off))
          | exact wpAny_bind off
      | @one x c ts st ss p1 p2 hd2 l2 hc hs r ih =>
        intro w
        obtain ⟨b, eb, yes, no⟩ := w
        refine wpAny_handleBy_cons (codeAny_handlers_test (nameAt hc ((PySem.W.exm_one (M := model X.prog X.w) JA.kIn tyA eb).here ?_))) (by intro q; cases q)
        cases b with
        | false => exact ih (no rfl)
        | true =>
          refine codeAny_handlers_suite (enter fun h3 oe3 zc3 dat3 S3 => ?_)
          refine wpAny_mono ((hs a oe3 cls d (X.pn ++ pins) zc3 dat3).run [] _ _ H1 _ S3 (yes rfl a an)) (fun fl s6 q => ?_) (fun _ _ z => z.elim)
          cases fl with
          | next =>
            obtain ⟨σ6, H6, S6, q6⟩ := q
            exact ⟨_, _, S6.unsuite ok, q6⟩
          | brk =>
            obtain ⟨σ6, H6, S6, q6⟩ := q
            exact ⟨_, _, S6.unsuite ok, q6⟩
          | cont =>
            obtain ⟨σ6, H6, S6, q6⟩ := q
            exact ⟨_, _, S6.unsuite ok, q6⟩
          | ret u =>
            obtain ⟨v6, σ6, H6, S6, r6, q6⟩ := q
            exact ⟨_, _, _, S6.unsuite ok, r6, q6⟩
      | @nam x n i c ts st ss p1 p2 hd2 l2 hi hl hc hs r ih =>
        intro w
        obtain ⟨b, eb, yes, no⟩ := w
        refine wpAny_handleBy_cons (codeAny_handlers_test (nameAt hc ((PySem.W.exm_one (M := model X.prog X.w) JA.kIn tyA eb).here ?_))) (by intro q; cases q)
        cases b with
        | false => exact ih (no rfl)
        | true =>
          refine codeAny_handlers_suite_as (enter fun h3 oe3 zc3 dat3 S3 => ?_)
          refine store_ok (X := X.suite a ((a, oe3) :: (X.pn ++ pins))) (v := .ref a) S3 nd hi (.inl hl) rfl (fun s5 S5 => ?_) (.inr hl)
          refine wpAny_mono ((hs a oe3 cls d (X.pn ++ pins) zc3 dat3).run [] s5 _ H1 _ S5 (yes rfl a an)) (fun fl s6 q => ?_) (fun _ _ z => z.elim)
          cases fl with
          | next =>
            obtain ⟨σ6, H6, S6, q6⟩ := q
            exact gone_ok (S6.unsuite ok) nd hi hl fun s7 J7 => ⟨_, _, J7, q6⟩
          | brk =>
            obtain ⟨σ6, H6, S6, q6⟩ := q
            exact gone_ok (S6.unsuite ok) nd hi hl fun s7 J7 => ⟨_, _, J7, q6⟩
          | cont =>
            obtain ⟨σ6, H6, S6, q6⟩ := q
            exact gone_ok (S6.unsuite ok) nd hi hl fun s7 J7 => ⟨_, _, J7, q6⟩
          | ret u =>
            obtain ⟨v6, σ6, H6, S6, r6, q6⟩ := q
            exact gone_ok (S6.unsuite ok) nd hi hl fun s7 J7 => ⟨_, _, _, J7, r6, q6⟩
    exact walk hh wish
  · cases fl with
    | next =>
      obtain ⟨σ1, H1, J, q⟩ := q
      exact wpAny_execs_nil ⟨σ1, H1, J.ofTry ok, q⟩
    | brk =>
      obtain ⟨σ1, H1, J, q⟩ := q
      exact ⟨σ1, H1, J.ofTry ok, q⟩
    | cont =>
      obtain ⟨σ1, H1, J, q⟩ := q
      exact ⟨σ1, H1, J.ofTry ok, q⟩
    | ret u =>
      obtain ⟨v, σ1, H1, J, r, q⟩ := q
      exact ⟨v, σ1, H1, J.ofTry ok, r, q⟩
end

/-! ### by data -/
def noErS : Slot → Slot
  | .er _ _ => .un
  | s => s
def LSt.noEr (l : LSt) : LSt := { l with sl := l.sl.map noErS }
def Fl.noEx : Fl → Fl
  | .ex _ _ => .bad
  | f => f
/-- behind a suite with a name -/
def Fl.off (i : Nat) : Fl → Fl
  | .nx l => .nx (l.noEr.put i .un)
  | .rt e l => .rt e (l.noEr.put i .un)
  | .bk l => .bk (l.noEr.put i .un)
  | .ct l => .ct (l.noEr.put i .un)
  | _ => .bad
abbrev ClD := Nat × Option Nat × (LSt → Fl)
def onEx (tb : Nat → Nat → Option Bool) : List ClD → XC → LSt → Fl
  | [], x, l => .ex x l
  | (m, oi, fs) :: r, x, l => match tb x.c m with
    | some true => (match oi with
      | none => (fs l).noEx
      | some i => (match x.args with
        | [d] => if i < l.sl.length then (fs (l.noEr.put i (.er x.c d))).off i else .bad
        | _ => .bad))
    | some false => onEx tb r x l
    | none => .bad
def zTry (tb : Nat → Nat → Option Bool) (hs : List ClD) (b : LSt → Fl) : LSt → Fl := fun l => match b l with
  | .ex x l => onEx tb hs x l
  | f => f
/-- which error class lies under which -/
def ExmOk (cn : Cn) (tb : Nat → Nat → Option Bool) : Prop := ∀ n m b, tb n m = some b → PySem.W.exmOne cn.K (.ref (cn.cA n)) (.ref (cn.cA m)) = some b
section
variable {c : Ac} {Hf H : Hp} {σ : L2.St} {l : LSt}
theorem noEr_get {l : LSt} {j : Nat} {s : Slot} (h : l.noEr.sl[j]? = some s) : (∀ n d, s ≠ .er n d) ∧ (isOwn s = true → l.sl[j]? = some s) ∧ ((s = .un ∧ ∃ s0, l.sl[j]? = some s0) ∨ l.sl[j]? = some s) := by
  have h : (l.sl.map noErS)[j]? = some s := h
  rw [List.getElem?_map, Option.map_eq_some_iff] at h
  obtain ⟨s0, e, h⟩ := h
  cases s0 <;> (simp only [noErS] at h; subst h)
  case er n d => exact ⟨(fun _ _ z => nomatch z), (fun z => nomatch z), .inl ⟨rfl, _, e⟩⟩
  all_goals exact ⟨(fun _ _ z => nomatch z), (fun _ => e), .inr e⟩
theorem RCO.re {cn : Cn} {ad ad' : Ad} (h : ad'.d = ad.d) {H : Hp} {o : HO} : ∀ {co : CO}, RCO cn ad H co o → RCO cn ad' H co o
  | .lst ds, ⟨vs, w1, w2⟩ => ⟨vs, w1, RVals.re h _ _ w2⟩
  | .dK ks ds, ⟨vs, w1, w2, w3⟩ => ⟨vs, w1, w2, RVals.re h _ _ w3⟩
  | .dT ks ds, ⟨vs, w1, w2, w3⟩ => ⟨vs, w1, w2, RVals.re h _ _ w3⟩
/-- two calls that differ by the error that is held -/
structure AcEq (c c' : Ac) : Prop where
  cn : c'.toCn = c.toCn
  hid : c'.hid = c.hid
  h0 : c'.Hf0 = c.Hf0
  gs : c'.gs = c.gs
  d : c'.ad.d = c.ad.d
  oa : c'.ad.oa = c.ad.oa
  od : c'.ad.od = c.ad.od
  fn : c'.ad.fn = c.ad.fn
theorem AcEq.symm {c c' : Ac} (e : AcEq c c') : AcEq c' c := ⟨e.cn.symm, e.hid.symm, e.h0.symm, e.gs.symm, e.d.symm, e.oa.symm, e.od.symm, e.fn.symm⟩
theorem AcEq.isd {c c' : Ac} (e : AcEq c c') {g : G} {a : Addr} : isD c'.toCn g c'.ad a ↔ isD c.toCn g c.ad a := by
  unfold isD
  rw [e.cn, e.d, e.oa, e.od]
theorem REnv.reAd {c' : Ac} (e : AcEq c c') (R : REnv c Hf σ H l) : REnv c' Hf σ H l.noEr where
  len := by
    show σ.length = (l.sl.map noErS).length
    rw [List.length_map]
    exact R.len
  slot := fun j s hj => by
    obtain ⟨n1, n2, n3⟩ := noEr_get hj
    rcases n3 with ⟨rfl, s0, h0⟩ | h0
    · obtain ⟨x, ex, _⟩ := R.slot j s0 h0
      exact ⟨x, ex, True.intro⟩
    · obtain ⟨x, ex, q⟩ := R.slot j s h0
      refine ⟨x, ex, ?_⟩
      cases s with
      | un => exact True.intro
      | v d =>
        obtain ⟨v, q1, q2⟩ := q
        exact ⟨v, q1, by rw [e.cn]; exact RVal.re e.d _ _ q2⟩
      | slf => exact (show x = some (.ref c.ad.oa) from q).trans (by rw [e.oa])
      | fn => exact (show x = some (.ref c.ad.fn) from q).trans (by rw [e.fn])
      | er n d => exact absurd rfl (n1 n d)
      | own co =>
        obtain ⟨a, o, q1, q2, q3, q4, q5, q6⟩ := q
        exact ⟨a, o, q1, q2, by rw [e.cn]; exact q3.re e.d, q4, by rw [e.hid]; exact q5, fun z => q6 (e.isd.mp z)⟩
  dis := fun i j s t a hi hj os ot ei ej => R.dis i j s t a ((noEr_get hi).2.1 os) ((noEr_get hj).2.1 ot) os ot ei ej
  sub := R.sub
  base := by rw [e.h0]; exact R.base
  frame := fun a o h => by
    rw [e.hid] at h
    obtain ⟨h1, h2, h3⟩ := R.frame a o h
    exact ⟨h1, h2, fun z => h3 (e.isd.mp z)⟩
  dice := by
    rw [e.cn]
    exact R.dice.reFn e.d e.oa e.od
  hgs := R.hgs.trans e.gs.symm
theorem REnv.clear (R : REnv c Hf σ H l) (i : Nat) : REnv c Hf (σ.set i none) H (l.put i .un) where
  len := by
    show (σ.set i none).length = (l.sl.set i .un).length
    rw [List.length_set, List.length_set]
    exact R.len
  slot := fun j s hj => by
    have hj : (l.sl.set i .un)[j]? = some s := hj
    by_cases e : j = i
    · subst e
      have hl : j < l.sl.length := by
        have := (List.getElem?_eq_some_iff.mp hj).1
        rwa [List.length_set] at this
      rw [List.getElem?_set_self hl] at hj
      cases hj
      exact ⟨none, List.getElem?_set_self (by rw [R.len]; exact hl), True.intro⟩
    · rw [List.getElem?_set_ne (Ne.symm e)] at hj
      obtain ⟨x, q1, q2⟩ := R.slot j s hj
      exact ⟨x, by rw [List.getElem?_set_ne (Ne.symm e)]; exact q1, q2⟩
  dis := fun j k s t a hj hk os ot ej ek => by
    have back : ∀ {m : Nat} {u : Slot}, (l.sl.set i .un)[m]? = some u → isOwn u = true → m ≠ i ∧ l.sl[m]? = some u := fun {m u} hm ou => by
      by_cases z : m = i
      · subst z
        have hl : m < l.sl.length := by
          have := (List.getElem?_eq_some_iff.mp hm).1
          rwa [List.length_set] at this
        rw [List.getElem?_set_self hl] at hm
        cases hm
        cases ou
      · rw [List.getElem?_set_ne (Ne.symm z)] at hm
        exact ⟨z, hm⟩
    obtain ⟨n1, h1⟩ := back hj os
    obtain ⟨n2, h2⟩ := back hk ot
    rw [List.getElem?_set_ne (Ne.symm n1)] at ej
    rw [List.getElem?_set_ne (Ne.symm n2)] at ek
    exact R.dis j k s t a h1 h2 os ot ej ek
  sub := R.sub
  base := R.base
  frame := R.frame
  dice := R.dice
  hgs := R.hgs
/-- the error's name is set -/
theorem REnv.setEr (R : REnv c Hf σ H l) {i n : Nat} {d : D} (r : RErr c.toCn c.ad Hf n d (some (.ref c.ad.er))) : REnv c Hf (σ.set i (some (.ref c.ad.er))) H (l.put i (.er n d)) where
  len := by
    show (σ.set i _).length = (l.sl.set i _).length
    rw [List.length_set, List.length_set]
    exact R.len
  slot := fun j s hj => by
    have hj : (l.sl.set i (.er n d))[j]? = some s := hj
    by_cases e : j = i
    · subst e
      have hl : j < l.sl.length := by
        have := (List.getElem?_eq_some_iff.mp hj).1
        rwa [List.length_set] at this
      rw [List.getElem?_set_self hl] at hj
      cases hj
      exact ⟨_, List.getElem?_set_self (by rw [R.len]; exact hl), r⟩
    · rw [List.getElem?_set_ne (Ne.symm e)] at hj
      obtain ⟨x, q1, q2⟩ := R.slot j s hj
      exact ⟨x, by rw [List.getElem?_set_ne (Ne.symm e)]; exact q1, q2⟩
  dis := fun j k s t a hj hk os ot ej ek => by
    have back : ∀ {m : Nat} {u : Slot}, (l.sl.set i (.er n d))[m]? = some u → isOwn u = true → m ≠ i ∧ l.sl[m]? = some u := fun {m u} hm ou => by
      by_cases z : m = i
      · subst z
        have hl : m < l.sl.length := by
          have := (List.getElem?_eq_some_iff.mp hm).1
          rwa [List.length_set] at this
        rw [List.getElem?_set_self hl] at hm
        cases hm
        cases ou
      · rw [List.getElem?_set_ne (Ne.symm z)] at hm
        exact ⟨z, hm⟩
    obtain ⟨n1, h1⟩ := back hj os
    obtain ⟨n2, h2⟩ := back hk ot
    rw [List.getElem?_set_ne (Ne.symm n1)] at ej
    rw [List.getElem?_set_ne (Ne.symm n2)] at ek
    exact R.dis j k s t a h1 h2 os ot ej ek
  sub := R.sub
  base := R.base
  frame := R.frame
  dice := R.dice
  hgs := R.hgs
end

/-! ### the rule -/
inductive DHs (X : Cx) (c : Ac) : List ExceptHandler → List ClD → Prop
  | nil : DHs X c [] []
  | one {x : Str} {m : Nat} {fs : LSt → Fl} {st : Stmt} {ss : List Stmt} {p1 p2 : Pos} {hds : List ExceptHandler} {l : List ClD} (hc : Names X x (.ref (c.cA m)))
      (hs : ∀ (a : Addr) (pn : List (Addr × Obj)), DSs (X.suite a pn) c W0 (st :: ss) fs) (r : DHs X c hds l) : DHs X c (.ExceptHandler (some (.Name x p1)) none (st :: ss) p2 :: hds) ((m, none, fs) :: l)
  | nam {x n : Str} {i m : Nat} {fs : LSt → Fl} {st : Stmt} {ss : List Stmt} {p1 p2 : Pos} {hds : List ExceptHandler} {l : List ClD} (hi : X.N[i]? = some n) (hl : X.env.kindOf n = some .local) (hc : Names X x (.ref (c.cA m)))
      (hs : ∀ (a : Addr) (oe : Obj) (pn : List (Addr × Obj)) (c' : Ac), AcEq c c' → c'.ad.er = a → Zc c'.ad.ec (some c'.ad.ed) oe → (∃ vs, oe.data = .fields vs) → DSs (X.suite a ((a, oe) :: pn)) c' W0 (st :: ss) fs) (r : DHs X c hds l) :
      DHs X c (.ExceptHandler (some (.Name x p1)) (some n) (st :: ss) p2 :: hds) ((m, some i, fs) :: l)
/-- the readings of the clauses -/
def tsOf (c : Ac) : ClD → ClT
  | (m, none, fs) => (.ref (c.cA m), none, fun _ _ _ => tS c W0 fs)
  | (m, some i, fs) => (.ref (c.cA m), some i, fun a cls d => fun D σ H => ∃ c' : Ac, AcEq c c' ∧ c'.ad.er = a ∧ c'.ad.ec = cls ∧ d = some c'.ad.ed ∧ tS c' W0 fs D σ H)
theorem clOk {X : Cx} {c : Ac} {hds : List ExceptHandler} {l : List ClD} (h : DHs X c hds l) : ClOk X hds (l.map (tsOf c)) := by
  induction h with
  | nil => exact .nil
  | one hc hs r ih => exact .one hc (fun a oe cls d pn _ _ => (hs a ((a, oe) :: pn)).pss) ih
  | @nam x n i m fs st ss p1 p2 hds l hi hl hc hs r ih =>
    refine .nam hi hl hc (fun a oe cls d pn z dat => ⟨fun ps s σ H D I h => ?_⟩) ih
    obtain ⟨c', e, ea, ec, ed, h⟩ := h
    subst ec ed
    exact (hs a oe pn c' e ea z dat).pss.run ps s σ H D I h
section
variable {c : Ac} {W : WX} {D : Ends} {tb : Nat → Nat → Option Bool}
theorem wpF_noEx {Hf : Hp} : ∀ {fl : Fl}, wpF c W D Hf fl.noEx → wpF c W0 D Hf fl
  | .nx _, h => h
  | .rt _ _, h => h
  | .bk _, h => h
  | .ct _, h => h
  | .bad, h => h
  | .ex _ _, h => h.elim
theorem REVa.re {c' : Ac} (e : AcEq c c') {Hf' H' : Hp} {g : G} : ∀ {ev : EV} {v : V}, REVa c' Hf' H' g ev v → REVa c Hf' H' g ev v
  | .v d, _, h => by
    have h : RVal c'.toCn c'.ad Hf' d _ := h
    rw [e.cn] at h
    exact RVal.re e.d.symm _ _ h
  | .o co, _, ⟨a, o, q1, q2, q3, q4, q5, q6⟩ => ⟨a, o, q1, q2, by rw [e.cn] at q3; exact q3.re e.d.symm, q4, by rw [e.hid] at q5; exact q5, fun z => q6 (e.isd.mpr z)⟩
theorem wpF_off {c' : Ac} (e : AcEq c c') {i : Nat} {Hf : Hp} {fl : Fl} (h : wpF c W D Hf (fl.off i)) : wpF c' W0 (offN D i) Hf fl := by
  cases fl with
  | nx l => exact fun σ H Hf' R s => h _ H Hf' ((R.reAd e.symm).clear i) s
  | rt ev l => exact fun v σ H Hf' R s r => h v σ H Hf' ((R.reAd e.symm).forget i) s (by
      have r2 := REVa.re e r
      exact r2)
  | bk l => exact fun σ H Hf' R s => h _ H Hf' ((R.reAd e.symm).clear i) s
  | ct l => exact fun σ H Hf' R s => h _ H Hf' ((R.reAd e.symm).clear i) s
  | ex _ _ => exact h.elim
  | bad => exact h
theorem onEx_wish {K : PySem.W.Frag} (hK : K = c.K) (ok : ExmOk c.toCn tb) {x : XC} {l : LSt} : ∀ (hs : List ClD) (Hf : Hp), wpF c W D Hf (onEx tb hs x l) → ∀ cls dd σ H Hf', REnv c Hf' σ H l → Same Hf Hf' → RX c.toCn c.ad Hf' x cls dd → wCl K W D (hs.map (tsOf c)) cls dd σ H
  | [], Hf, h, cls, dd, σ, H, Hf', R, s, r => h cls dd σ H Hf' R s r
  | (m, oi, fs) :: rest, Hf, h, cls, dd, σ, H, Hf', R, s, r => by
    unfold onEx at h
    obtain ⟨ec, r2⟩ := id r
    cases e : tb x.c m with
    | none =>
      rw [e] at h
      exact h.elim
    | some b =>
      rw [e] at h
      have ex : PySem.W.exmOne K cls (.ref (c.cA m)) = some b := by
        rw [ec, hK]
        exact ok _ _ _ e
      cases b with
      | false =>
        have ih := onEx_wish hK ok rest Hf h cls dd σ H Hf' R s r
        cases oi with
        | none => exact ⟨false, ex, (fun z => nomatch z), fun _ => ih⟩
        | some i => exact ⟨false, ex, (fun z => nomatch z), fun _ => ih⟩
      | true =>
        cases oi with
        | none => exact ⟨true, ex, fun _ a na => ⟨Hf', l, R, (wpF_noEx h).mo s⟩, fun z => nomatch z⟩
        | some i =>
          refine ⟨true, ex, fun _ a na => ?_, fun z => nomatch z⟩
          obtain ⟨xc, args⟩ := x
          match args, r2, h with
          | [d], r2, h =>
            rcases r2 with r2 | ⟨d', a', v, e1, e2, e3, e4⟩
            · cases r2
            · cases e1
              have h : wpF c W D Hf (if i < l.sl.length then (fs (l.noEr.put i (.er xc d))).off i else .bad) := h
              split at h
              · have E : AcEq c { c with ad := { c.ad with er := a, ed := a', ec := cls } } := ⟨rfl, rfl, rfl, rfl, rfl, rfl, rfl, rfl⟩
                refine ⟨{ c with ad := { c.ad with er := a, ed := a', ec := cls } }, E, rfl, rfl, e2, Hf', _, (R.reAd E).setEr (n := xc) (d := d) ⟨rfl, ec, v, e3, RVal.re (ad := c.ad) (ad' := { c.ad with er := a, ed := a', ec := cls }) rfl _ _ e4⟩, (wpF_off E h).mo s⟩
              · exact h.elim
          | [], _, h => exact h.elim
          | _ :: _ :: _, _, h => exact h.elim
end
section
variable {X : Cx} {c : Ac} {W : WX} {cn : Cn} {k : Nat} {body : List Stmt} {h0 : ExceptHandler} {hds : List ExceptHandler} {l : List ClD} {pos : Pos} {fb : LSt → Fl} {tb : Nat → Nat → Option Bool}
theorem s_try (Z : Ctx X c W cn k) (ok : ExmOk cn tb) (hb : ∀ (W2 : WX) (pn : List (Addr × Obj)) (xe : Value → Shared → Prop), Ctx (X.tr pn xe) c W2 cn k → DSs (X.tr pn xe) c W2 body fb) (hh : DHs X c (h0 :: hds) l) (est : X.stack = X.env :: X.outer := by rfl)
    (efr : X.env.frame = some X.env.locals := by rfl) : DS X c W (.Try body (h0 :: hds) [] [] pos) (zTry tb l fb) :=
  ⟨(ps_tryC est efr Z.nd Z.tk (fun W2 pn xe tk pw => (hb W2 pn xe ⟨Z.hK, Z.hc, Z.hr, tk, Z.calm, Z.nd, pw⟩).pss) (clOk hh)).imp' fun D σ H ⟨Hf, l0, R, h⟩ => by
    refine ⟨Hf, l0, R, ?_⟩
    unfold zTry at h
    cases e : fb l0 with
    | ex x l1 =>
      rw [e] at h
      exact fun cls dd σ' H' Hf' R' s' r => onEx_wish Z.hK (by rw [Z.hc]; exact ok) l Hf h cls dd σ' H' Hf' R' s' r
    | nx l1 => rw [e] at h; exact h
    | rt ev l1 => rw [e] at h; exact h
    | bk l1 => rw [e] at h; exact h
    | ct l1 => rw [e] at h; exact h
    | bad => rw [e] at h; exact h⟩
/-- error.f in a suite -/
structure XfOk (cn : Cn) (f : Str) (tb : Nat → Bool) : Prop where
  ok : ∀ n, tb n = true → XfC cn.K (cn.cA n) ∧ PySem.W.findIn cn.K (.ref (cn.cA n)) f = some none ∧ cn.xf n = f
def sErr (i : Nat) (tb : Nat → Bool) : LSt → Res D := fun l => match l.sl[i]? with
  | some (.er n d) => if tb n = true then .ok d l else .bad
  | _ => .bad
theorem de_err {c c' : Ac} {a : Addr} {oe : Obj} {pn : List (Addr × Obj)} {i : Nat} {x f : Str} {np pos : Pos} {tb : Nat → Bool} {W : WX} (hK : X.K = c.K) (ok : XfOk c.toCn f tb) (e : AcEq c c') (ea : c'.ad.er = a) (z : Zc c'.ad.ec (some c'.ad.ed) oe) (dat : ∃ vs, oe.data = .fields vs)
    (pv : PE (X.suite a ((a, oe) :: pn)) (.Name x np) (tVar i)) (hb : attributeBase (.Name x np) f X.env (eval (.Name x np) X.env) = eval (.Name x np) X.env := by rfl) :
    DE (X.suite a ((a, oe) :: pn)) c' W (.Attribute (.Name x np) f pos) (sErr i tb) := by
  refine ⟨⟨fun pins s σ H Q I h => ?_⟩⟩
  obtain ⟨Hf, l, R, h⟩ := h
  unfold sErr at h
  cases e1 : l.sl[i]? with
  | none =>
    rw [e1] at h
    exact h.elim
  | some sl =>
    rw [e1] at h
    cases sl with
    | er n d =>
      have h : wpR (if tb n = true then .ok d l else .bad) (PD c' σ Q Hf) (PX c' W σ Hf) := h
      split at h
      · rename_i ht
        obtain ⟨xf, no, xn⟩ := ok.ok n ht
        obtain ⟨y, ey, q1, q2, v, q3, q4⟩ := R.slot i _ e1
        rw [e.cn] at q2 q3
        refine (pe_xf (C := c.cA n) (by rw [hK]; exact xf) (by rw [hK]; exact no) z dat pv hb).run pins s σ H Q I ⟨.ref a, by rw [ey, q1, ea], rfl, q2, _, _, v, rfl, R.sub _ _ q3, ?_, h v H Hf R (Same.refl _) q4⟩
        rw [xn]
        simp [List.lookup]
      · exact h.elim
    | _ => exact h.elim
end
end Dx

/-! Dx.EndG: the call of the law by the driver: there no repr is under way. -/
namespace Dx
open PySem PySem.Spec PyProof.Rows L2
section
variable {P : Program} {w : World} {K : PySem.W.Frag} {cs : List (Addr × Addr)} {h : Heap} {a : Addr} {o : Obj} {ds : List V}
open Classical in
/-- what is tracked at the law's call: the tables, and the script where it is not written -/
noncomputable def seen0 (K : PySem.W.Frag) (cs : List (Addr × Addr)) (a : Addr) (o : Obj) (ds : List V) : Hp := fun b =>
  if b ∈ cs.map (·.2) then some (.tbl #[]) else if b = a ∧ K.lookup a = none then some (.frz o (.lst ds)) else none
theorem seen0_tab {p : Addr × Addr} (hp : p ∈ cs) : seen0 K cs a o ds p.2 = some (.tbl #[]) := if_pos (List.mem_map.mpr ⟨p, hp, rfl⟩)
theorem seen0_of {b : Addr} {u : HO} (e : seen0 K cs a o ds b = some u) : (b ∈ cs.map (·.2) ∧ u = .tbl #[]) ∨ (b = a ∧ K.lookup a = none ∧ u = .frz o (.lst ds)) := by
  unfold seen0 at e
  split at e
  · exact .inl ⟨by assumption, (Option.some.inj e).symm⟩
  · split at e
    · rename_i q
      exact .inr ⟨q.1, q.2, (Option.some.inj e).symm⟩
    · exact nomatch e
abbrev tab0 : Obj := { cls := .none, data := .fields #[] }
theorem law_callG {mg mb : Str → Option Value} {CX : CXT} {k : Nat} {fa : Addr} {fd : FuncData} {x : Str} {sp : Sp} {s : Shared} {vs : List Value} {ns : List Int}
    (KX : K.In s.heap) (hg : s.heap.Ns mainGlobals mg) (hb : s.heap.Ns builtinsNs mb) (hbb : ∀ x : Str, x ≠ "__name__" → mb x = bootBuiltins x) (lim : s.heap.NoLimit) (gens : s.gens = #[])
    (isT : ∀ p ∈ cs, s.heap.get? p.2 = some tab0) (noT : ∀ p ∈ cs, K.lookup p.2 = none) (code : ∀ p ∈ cs, PySem.W.CodeHd s.heap p.1 p.2)
    (bm : ∃ (m : Addr) (ob : Obj), mg "__builtins__" = some (.ref m) ∧ m ≠ builtinsNs ∧ s.heap.get? m = some ob ∧ ob.cls = .type "module" ∧ ob.dict = some builtinsNs ∧ ob.data = .plain)
    (isL : s.heap.get? a = some { cls := .type "list", data := .seq vs.toArray }) (are : IntsAre vs ns) (short : ns.length ≤ sizeLine) (room : Room k callerA)
    (F : ∀ base : Heap, K.In base → base.Ns mainGlobals mg → (∀ p ∈ cs, LamX.TabB base mg p.1 p.2) → FnOk P w K mg base CX k fa fd [x] sp)
    (bind : ∀ (s : Shared) (u : Value), BindsTo s fd ⟨[u], []⟩ [(x, u)])
    (wish : ∀ H : Hp, (∀ p ∈ cs, H p.2 = some (.tbl #[])) → SqL K H a (ns.map V.int) → sp [.ref a] H (fun v _ => v = .bl true) fun _ _ _ => False)
    (noX : ∀ H e s', CX [] H s (fun _ _ _ => False) e s' → False) :
    codeAny (model P w) callerA (.call (.ref fa) ⟨[.ref a], []⟩) (fun r s' => r = .ok (.ret (.bool true)) ∧ OldK s.heap s'.heap ∧ s'.os = s.os ∧ AllBare s'.gens) s := by
  have rel := vals_ints are
  have len := are.length
  have tabs : ∀ {b : Addr}, b ∈ cs.map (·.2) → s.heap.get? b = some tab0 ∧ K.lookup b = none := fun {b} hb => by
    obtain ⟨p, hp, rfl⟩ := List.mem_map.mp hb
    exact ⟨isT p hp, noT p hp⟩
  have aNo : a ∉ cs.map (·.2) := fun z => by
    have e := (tabs z).1
    rw [isL] at e
    exact nomatch congrArg Obj.data (Option.some.inj e)
  obtain ⟨H, hH⟩ : ∃ H : Hp, H = seen0 K cs a { cls := .type "list", data := .seq vs.toArray } (ns.map V.int) := ⟨_, rfl⟩
  have hT : ∀ p ∈ cs, H p.2 = some (.tbl #[]) := fun p hp => hH ▸ seen0_tab hp
  have hO : ∀ {b : Addr} {u : HO}, H b = some u → (b ∈ cs.map (·.2) ∧ u = .tbl #[]) ∨ (b = a ∧ K.lookup a = none ∧ u = .frz { cls := .type "list", data := .seq vs.toArray } (.lst (ns.map V.int))) := fun {b u} e => seen0_of (hH ▸ e)
  -- what is neither a table nor the script stands in the base
  have free : ∀ {b : Addr} {q : Obj}, s.heap.get? b = some q → (∀ l n, q.data ≠ .seq l n) → q.data ≠ .fields #[] → H b = none := fun {b q} e n1 n2 => by
    cases z : H b with
    | none => rfl
    | some u =>
      rcases hO z with ⟨hb, _⟩ | ⟨rfl, _, _⟩
      · have e2 := (tabs hb).1
        rw [e] at e2
        exact (n2 (congrArg Obj.data (Option.some.inj e2))).elim
      · rw [isL] at e
        exact (n1 _ _ (congrArg Obj.data (Option.some.inj e)).symm).elim
  have there : ∀ {b : Addr} {q : Obj}, s.heap.get? b = some q → (∀ l n, q.data ≠ .seq l n) → q.data ≠ .fields #[] → (hidT s.heap H).get? b = some q := fun e n1 n2 => hidT_get e (free e n1 n2)
  have names : ∀ {b : Addr} {m : Str → Option Value}, s.heap.Ns b m → (hidT s.heap H).Ns b m := fun ⟨q, es, ep, e, d, r⟩ =>
    ⟨q, es, ep, there e (fun l n z => by rw [d] at z; exact nomatch z) (fun z => by rw [d] at z; exact nomatch z), d, r⟩
  have inK : K.In (hidT s.heap H) := fun b q e => hidT_get (KX b q e) (by
    cases z : H b with
    | none => rfl
    | some u =>
      rcases hO z with ⟨hb, _⟩ | ⟨rfl, n, _⟩
      · rw [(tabs hb).2] at e
        exact nomatch e
      · rw [n] at e
        exact nomatch e)
  have mod : L2.Mod K mg (hidT s.heap H) := by
    obtain ⟨mc, l1, l2⟩ := lim
    exact ⟨inK, names hg, ⟨mb, names hb, hbb⟩, ⟨mc, names l1, l2⟩⟩
  have noG : ∀ {b : Addr} {q : Obj}, s.heap.get? b = some q → (∀ es ep, q.data ≠ .dict es ep) → b ≠ mainGlobals := fun {b q} e n z => by
    obtain ⟨q2, es, ep, e2, d, _⟩ := hg
    rw [z, e2] at e
    cases e
    exact n _ _ d
  have tb : ∀ p ∈ cs, LamX.TabB (hidT s.heap H) mg p.1 p.2 := fun p hp => by
    obtain ⟨q, us, file, tf, flags, tg, inF, text, tt, e1, r1, r2, r3, rest⟩ := code p hp
    obtain ⟨m, ob, b1, b2, b3, b4, b5, b6⟩ := bm
    refine ⟨⟨q, us, file, tf, flags, tg, inF, text, tt, there e1 (fun l n z => by rw [r2] at z; exact nomatch z) (fun z => ?_), r1, r2, r3, rest⟩,
      ⟨m, ob, b1, b2, noG b3 (fun es ep z => by rw [b6] at z; exact nomatch z), fun z => ?_, there b3 (fun l n z => by rw [b6] at z; exact nomatch z) (fun z => by rw [b6] at z; exact nomatch z), b4, b5, b6⟩,
      (noG (isT p hp) fun es ep z => nomatch z).symm⟩
    · rw [r2] at z
      cases z
      simp at r3
    · rw [z, isT p hp] at b3
      cases b3
      exact nomatch b6
  have holds : HOk P w H s.heap := fun b u z => by
    rcases hO z with ⟨hb, rfl⟩ | ⟨rfl, _, rfl⟩
    · exact (tabs hb).1
    · exact ⟨isL, by rw [List.length_map]; exact short, vs, _, rel, isL⟩
  have script : SqL K H a (ns.map V.int) := by
    cases z : K.lookup a with
    | none =>
      refine .inl (.inr ⟨{ cls := .type "list", data := .seq vs.toArray }, ?_⟩)
      rw [hH]
      exact (if_neg aNo).trans (if_pos ⟨rfl, z⟩)
    | some q =>
      have e := KX a q z
      rw [isL] at e
      cases e
      exact .inr ⟨_, vs.toArray, _, z, rfl, rfl, rfl, by rw [List.size_toArray, len]; exact short, by simpa using rel⟩
  have env : Env0 P w K mg (hidT s.heap H) callerA [] s H := ⟨rfl, mod, fun b q => of_hidT, Nat.le_of_eq (hidT_size _ _), trivial, fun b z => absurd (show b ∈ ([] : List Addr) from z) List.not_mem_nil, holds, AllBare.of_eq gens⟩
  refine codeAny_mono ((F _ inK (names hg) tb).run callerA [] s H ⟨[.ref a], []⟩ [.ref a] [.ref a] _ _ room env (bind s _) (.cons rfl .nil) (wish H hT script)) fun r s' z => ?_
  match r, z with
  | .error e, z => exact (noX H e s' z).elim
  | .ok .next, z => exact z.elim
  | .ok .brk, z => exact z.elim
  | .ok .cont, z => exact z.elim
  | .ok (.ret u), ⟨v, H', os, bare, un, holds', ru, ev⟩ =>
    have ev : v = .bl true := ev
    subst ev
    have ru : u = Value.bool true := ru
    subst ru
    have stay : ∀ b q, b ∉ cs.map (·.2) → s.heap.get? b = some q → s'.heap.get? b = some q := fun b q nb e => by
      cases z : H b with
      | none => exact un.keep b q e z (fun y => absurd (show b ∈ ([] : List Addr) from y) List.not_mem_nil) (fun y => absurd y List.not_mem_nil)
      | some u =>
        rcases hO z with ⟨y, _⟩ | ⟨_, _, rfl⟩
        · exact absurd y nb
        · have e1 := (holds b _ z).1
          have e2 := (holds' b _ (un.frzs b _ _ z)).1
          rw [e] at e1
          cases e1
          exact e2
    have more : ∀ {b : Addr}, b ∈ cs.map (·.2) → ∃ l : Array Value, s'.heap.get? b = some { cls := .none, data := .fields (#[] ++ l) } := fun {b} y => by
      obtain ⟨p, hp, rfl⟩ := List.mem_map.mp y
      obtain ⟨l, z⟩ := un.tbls p.2 #[] (hT p hp)
      exact ⟨l, holds' p.2 _ z⟩
    refine ⟨rfl, ⟨fun b q e => ?_, fun b q e => ?_⟩, os, bare⟩
    · by_cases y : b ∈ cs.map (·.2)
      · obtain ⟨l, e2⟩ := more y
        obtain ⟨p, hp, rfl⟩ := List.mem_map.mp y
        rw [isT p hp] at e
        cases e
        exact .inr (.inl ⟨((code p hp).tab (isT p hp)).isCodeTable, rfl, #[], l, rfl, e2⟩)
      · exact .inl (stay b q y e)
    · by_cases y : b ∈ cs.map (·.2)
      · obtain ⟨l, e2⟩ := more y
        exact ⟨_, e2⟩
      · exact ⟨q, stay b q y e⟩
end
end Dx

/-! Dx.HeadX: what the top has laid: errors with fields, tables of code objects; the law's end with tables. -/
namespace Dx
open PySem PySem.Spec PyProof.Rows L2

/-! ### the law's end -/
theorem walk_ofX {l : PySem.W.OpenLaw} {n k : Nat} {q : Program} {loose : List Str} {XP : (Str → Option Value) → Heap → Prop} {YP : World → Heap → Prop} {d : DefRec} {CX : CXT} {x : Str}
    (hn : l.most = some n) (hn2 : n ≤ sizeLine) (hdf : d.params.defaults = []) (hr : Room k callerA)
    (F : ∀ (w : World) (mg : Str → Option Value) (fa : Addr) (h : Heap), YP w h → h.Ns mainGlobals mg → mg d.name = some (.ref fa) →
      ∃ (K : PySem.W.Frag) (fd : FuncData) (cs : List (Addr × Addr)) (sp : Sp), K.In h ∧ (∀ p ∈ cs, h.get? p.2 = some { cls := .none, data := .fields #[] }) ∧ (∀ p ∈ cs, K.lookup p.2 = none) ∧ (∀ p ∈ cs, PySem.W.CodeHd h p.1 p.2) ∧
        (∀ (s : Shared) (u : Value), BindsTo s fd ⟨[u], []⟩ [(x, u)]) ∧
        (∀ (H : Hp) (a : Addr) (ns : List Int), ns.length ≤ n → (∀ p ∈ cs, H p.2 = some (.tbl #[])) → SqL K H a (ns.map V.int) → sp [.ref a] H (fun v _ => v = .bl true) fun _ _ _ => False) ∧
        ∀ base : Heap, K.In base → base.Ns mainGlobals mg → (∀ p ∈ cs, LamX.TabB base mg p.1 p.2) → FnOk l.prog w K mg base CX k fa fd [x] sp)
    (hCX : ∀ (H : Hp) (s : Shared) (e : Value) (s' : Shared), CX [] H s (fun _ _ _ => False) e s' → False) : PySem.W.WalkO q loose XP YP l.row.toRowW d [] (fun f vs => PySem.call f vs) := by
  refine Att.attach_callB hn hdf fun w s₀ s1 mg mb fa o pm cd doc a vs ns G Y ho hd hcd hmg hobj hints hlen hbits hg => ?_
  obtain ⟨K, fd, cs, sp, KX, hT, nT, C, hb, hsp, hF⟩ := F w mg fa _ Y G.T.g hmg
  exact law_callG KX G.T.g G.T.b G.T.builtins G.T.nolimit hg hT nT C G.T.bmain hobj hints (Nat.le_trans hlen hn2) hr hF hb (fun H hH hS => hsp H a ns hlen hH hS) fun H e s' => hCX H s1 e s'
theorem tqL_mem {l : List (Addr × Str)} {P : Addr} (h : (tqL l P).isSome = true) : P ∈ l.map (·.1) := by
  unfold tqL at h
  obtain ⟨q, hq⟩ := Option.isSome_iff_exists.mp h
  induction l with
  | nil => cases hq
  | cons p r ih =>
    simp only [List.lookup] at hq
    split at hq
    · rename_i e
      rw [List.map_cons, eq_of_beq e]
      exact List.mem_cons_self ..
    · exact List.mem_cons_of_mem _ (ih (Option.isSome_iff_exists.mpr ⟨q, hq⟩) hq)

/-! ### error classes -/
theorem ex0B_ok {K : PySem.W.Frag} {mg : Str → Option Value} {cn : Cn} {x : Str} {n : Nat} {B newId initId : String} {bm : List Value} (F : ExcBaseFacts B newId initId bm) (m : mg x = some (.ref (cn.cA n))) (h : ex0B K (cn.cA n) newId bm = true) : Xe0 K mg cn x n := by
  unfold ex0B at h
  simp only [Bool.and_eq_true, decide_eq_true_eq] at h
  exact ⟨m, B, newId, initId, bm, F, h.1.1.1, h.1.1.2, h.1.2, h.2⟩
/-- the function's closure and code -/
theorem xin_ok {P : Program} {K : PySem.W.Frag} {C : Addr} {f slf vn nm qn : Str} {st : Stmt} {B newId initId : String} {bm : List Value} (FB : ExcBaseFacts B newId initId bm) (SF : StoreFacts B bm "object.__setattr__" "object") (KF : PySem.W.KxsFacts B initId) (S : DxR.XinS st slf vn f)
    (h1 : xinB K P.main.file C f qn B newId initId bm = true) (h2 : xifB K P.main.file C = true) (h3 : seeI K (atX K C "__init__") = (⟨fun K => atX K C "__init__", nm, qn, st, true, [], []⟩ : DfX).due ∧ okX K ⟨fun K => atX K C "__init__", nm, qn, st, true, [], []⟩ = true) (top : (P.main.scope.names.lookup ("super" : Str)).isSome = false) : XinOk P K C f := by
  unfold xinB at h1
  simp only [Bool.and_eq_true, decide_eq_true_eq] at h1
  obtain ⟨⟨⟨⟨⟨⟨⟨⟨⟨⟨⟨⟨⟨a1, a2⟩, a3⟩, a4⟩, a5⟩, a6⟩, a7⟩, a8⟩, a9⟩, a10⟩, a11⟩, a12⟩, a13⟩, a14⟩ := h1
  refine ⟨atX K C "__init__", st, slf, vn, B, newId, initId, bm, ⟨FB, SF, KF, a1, a2, He.eqO_ok a3, a4, He.eqO_ok a5, He.eqO_ok a6, He.eqO_ok a7, a8, a9, He.eqO_ok a10, a11, ?_, top⟩, S, a12, a13, a14⟩
  obtain ⟨e, c⟩ := h3
  obtain ⟨kp, c2⟩ := Bool.and_eq_true_iff.mp c
  unfold xifB at h2
  unfold seeI at e
  simp only at c2
  cases q : K.lookup (atX K C "__init__") with
  | none =>
    rw [q] at c2
    cases c2
  | some o =>
    rw [q] at c2 e h2
    obtain ⟨oc, od, dt, osl⟩ := o
    cases dt with
    | func z =>
      obtain ⟨n1, n2, n3, n4, n5, n6, n7, n8, n9, n10, n11, n12, n13, n14, n15⟩ := z
      have e2 : (some (n1, n2, n3, n4, n5, n6, [], n15) : He.FnW) = some (nm, qn, defArgs st, .stmts (defBody st), defScope st, mainGlobals, [], builtinsNs) := e
      simp only [Option.some.injEq, Prod.mk.injEq] at e2
      obtain ⟨g1, g2, g3, g4, g5, g6, _, g8⟩ := e2
      subst g1 g2 g3 g4 g5 g6 g8
      have c3 : (PySem.W.codeIn K n13 n2 && (He.dflB K n8 [] && He.kwdB K n9 [])) = true := c2
      obtain ⟨k1, k2⟩ := Bool.and_eq_true_iff.mp c3
      obtain ⟨k3, k4⟩ := Bool.and_eq_true_iff.mp k2
      rcases He.dflB_ok k3 with ⟨_, e8⟩ | ⟨e8, _⟩
      case inr => exact absurd rfl e8
      case inl =>
        subst e8
        dsimp only at h2
        split at h2
        · rename_i n cc d
          obtain ⟨h4, h5⟩ := Bool.and_eq_true_iff.mp h2
          obtain ⟨h6, h7⟩ := Bool.and_eq_true_iff.mp h4
          have en : n = ("__class__" : Str) := eq_of_beq h6
          subst en
          split at h7
          · rename_i cl cld C' csl hc
            have ec : C' = C := eq_of_beq h7
            subst ec
            split at h5
            · rename_i ccl cdd vs ccs hd
              split at h5
              · rename_i fl tf hv
                exact ⟨oc, od, n1, n2, n9, n10, n11, n12, d, cc, n14, osl, rfl, k1, ⟨cl, cld, csl, hc⟩, ccl, cdd, vs, ccs, fl, tf, hd, hv, h5⟩
              · cases h5
            · cases h5
          · cases h7
        · cases h2
    | _ => cases c2

/-! ### defs that make lambdas: their code is known -/
section
variable {P : Program} {w : World} {K : PySem.W.Frag} {mg : Str → Option Value} {base : Heap} {cn : Cn} {x qual : Str} {params : Arguments} {body : List Stmt} {scope : Scope} {f : Addr} {fd : FuncData} {N ps : List Str} {k : Nat} {fb : LSt → Fl} {dvs : List V} {kws : List (Str × V)}
/-- what a def that makes lambdas has -/
structure TabAt (base : Heap) (K : PySem.W.Frag) (mg : Str → Option Value) (cn : Cn) (f : Addr) (q : Str) : Prop where
  c : cdB K f = true
  tb : LamX.TabB base mg (cdX K f) (tbX K f)
  q : cn.tq (tbX K f) = some q
theorem cd_eq {oc : Value} {od : Option Addr} {z : FuncData} {osl : Array (Option Value)} (lk : K.lookup f = some ⟨oc, od, .func z, osl⟩) (h : cdB K f = true) : z.code = .ref (cdX K f) := by
  unfold cdB at h
  unfold cdX
  rw [lk] at h ⊢
  dsimp only at h ⊢
  cases e : z.code <;> rw [e] at h <;> first | cases h | rfl
theorem fnD_okC {cn : Cn} (F : FunD K x qual params body scope dvs kws f fd) (hc : cdB K f = true) (S : FnScope N ps scope)
    (hbody : ∀ (A : Around) (outer : List Env) (s : Shared) (H : Hp) (E : XK) (c : Ac), c.toCn = cn → Room k (A.deeper (envOfC qual scope s.heap.objs.size f (.ref (cdX K f)))) →
      DSs (cxOf (L2.CX P w) P w K mg base N qual scope f (.ref (cdX K f)) A outer s H E) c (fun cls d _ H' => E cls d H') body fb) : FnOk P w K mg base (L2.CX P w) (k + 1) f fd ps (fun vs H Q E => vs.length = ps.length ∧ spF cn (mOf N.length ps.length fb) vs H Q E) := by
  obtain ⟨oc, od, dV, kV, doc, pm, an, cdv, ct, osl, rfl, lk, hcd, _, _⟩ := F.ex
  have e : cdv = .ref (cdX K f) := cd_eq lk hc
  refine fn_of lk hcd S (fun vs H Q E h => h.1) fun A outer s H vs Q E hr h => ?_
  rw [e] at hr ⊢
  obtain ⟨hl, Hf, ad, ds, g, sm, dc, r, h⟩ := h
  refine ⟨_, (hbody A outer s H E { toCn := cn, hid := hidOf cn H Hf g ad, Hf0 := Hf, ad := ad, gs := g.sh } rfl hr).pss, Hf, _, env_start (N := N) sm dc r, ?_⟩
  have hd : ds.length = ps.length := by rw [r.length, hl]
  refine ends_ok ?_
  unfold mOf at h
  rw [if_pos hd] at h
  rw [show N.length - ds.length = N.length - ps.length by rw [hd]]
  exact h
theorem fn0C {n p : Nat} (hK : K = cn.K) (F : FunD K x qual params body scope [] [] f fd) (hc : cdB K f = true) (S : FnScope N ps scope) (hb : L2.Binds K fd ps [])
    (hbody : ∀ (A : Around) (outer : List Env) (s : Shared) (H : Hp) (E : XK) (c : Ac), Ctx (cxOf (L2.CX P w) P w K mg base N qual scope f (.ref (cdX K f)) A outer s H E) c (fun cls d _ H' => E cls d H') cn k →
      DSs (cxOf (L2.CX P w) P w K mg base N qual scope f (.ref (cdX K f)) A outer s H E) c (fun cls d _ H' => E cls d H') body fb) (hn : N.length = n := by rfl) (hp : ps.length = p := by rfl) : FnR P w K mg base (L2.CX P w) (k + 1) f (spF cn (mOf n p fb)) := by
  subst hn hp
  exact fnr_of (dd := []) (dvs := []) (ds := []) (fnD_okC (cn := cn) F hc S fun A outer s H E c hc hr => hbody A outer s H E c ⟨by rw [hc]; exact hK, hc, hr, takes_of rfl rfl rfl rfl, rfl, S.nd, passes_of rfl⟩) rfl hb .nil fl0 fun xs g _ => by rw [List.append_nil]
theorem fo0C {n p : Nat} (hK : K = cn.K) (F : FunD K x qual params body scope [] [] f fd) (hc : cdB K f = true) (S : FnScope N ps scope)
    (hbody : ∀ (A : Around) (outer : List Env) (s : Shared) (H : Hp) (E : XK) (c : Ac), Ctx (cxOf (L2.CX P w) P w K mg base N qual scope f (.ref (cdX K f)) A outer s H E) c (fun cls d _ H' => E cls d H') cn k →
      DSs (cxOf (L2.CX P w) P w K mg base N qual scope f (.ref (cdX K f)) A outer s H E) c (fun cls d _ H' => E cls d H') body fb) (hn : N.length = n := by rfl) (hp : ps.length = p := by rfl) :
    FnOk P w K mg base (L2.CX P w) (k + 1) f fd ps (fun vs H Q E => vs.length = p ∧ spF cn (mOf n p fb) vs H Q E) := by
  subst hn hp
  exact fnD_okC (cn := cn) F hc S fun A outer s H E c hc hr => hbody A outer s H E c ⟨by rw [hc]; exact hK, hc, hr, takes_of rfl rfl rfl rfl, rfl, S.nd, passes_of rfl⟩
/-- a def that calls what it gets -/
theorem th0 {a : Str} {n : Nat} {fbt : (G → FR) → LSt → Fl} (F : FunD K x x params body scope [] [] f fd) (S : FnScope N [a] scope) (hm : mg x = some (.ref f)) (hb : L2.Binds K fd [a] [])
    (hbody : ∀ (cdv : Value) (A : Around) (outer : List Env) (s : Shared) (H : Hp) (E : XK) (c : Ac) (t : G → FR), Ctx (cxOf (L2.CX P w) P w K mg base N x scope f cdv A outer s H E) c (fun cls d _ H' => E cls d H') cn k →
      (∀ (W2 : WX) (pn : List (Addr × Obj)) (xe : Value → Shared → Prop) (p1 p2 : Pos), Takes ((cxOf (L2.CX P w) P w K mg base N x scope f cdv A outer s H E).tr pn xe) W2 →
        DE ((cxOf (L2.CX P w) P w K mg base N x scope f cdv A outer s H E).tr pn xe) c W2 (.Call (.Name a p1) [] [] p2) (sTk 0 t)) →
      DSs (cxOf (L2.CX P w) P w K mg base N x scope f cdv A outer s H E) c (fun cls d _ H' => E cls d H') body (fbt t))
    (hN : N[0]? = some a := by rfl) (hn : N.length = n := by rfl) (hv : Vis scope a := by first | exact .inl rfl | exact .inr (.inl rfl) | exact .inr (.inr rfl)) (h1 : (a == ("__debug__" : Str)) = false := by decide) (h2 : (a == ("__classdict__" : Str)) = false := by decide) : ThkOk P w K mg base cn k x (mThk n fbt) :=
  ⟨f, fd, params, body, scope, N, a, n, fbt, F, hm, hb, S, hN, hn, hv, h1, h2, rfl, hbody⟩
theorem ThkOk.mono {j : Nat} {m : (G → FR) → G → FR} (h : ThkOk P w K mg base cn j x m) (hj : j ≤ k) : ThkOk P w K mg base cn k x m := by
  obtain ⟨g, fd, prm, bd, sc, Ng, a, n, fb, F, hm, hb, S, hN, hn, hv, h1, h2, e, hB⟩ := h.ex
  exact ⟨g, fd, prm, bd, sc, Ng, a, n, fb, F, hm, hb, S, hN, hn, hv, h1, h2, e, fun cdv A outer s H E c t Z act => hB cdv A outer s H E c t ⟨Z.hK, Z.hc, Z.hr.mono hj, Z.tk, Z.calm, Z.nd, Z.pass⟩ act⟩
end
section
variable {X : Cx} {c c' : Ac} {W : WX} {cn : Cn} {k j : Nat}
theorem Ctx.nm (Z : Ctx X c W cn k) {x : Str} {m : Nat} (h : X.mg x = some (.ref (cn.cA m))) (hg : Gl X x := by rfl) (hd : (x == ("__debug__" : Str)) = false := by decide) : Names X x (.ref (c.cA m)) := ⟨hg, hd, .inl (by rw [Z.hc]; exact h)⟩
theorem Ctx.mono (Z : Ctx X c W cn k) (h : j ≤ k) : Ctx X c W cn j := ⟨Z.hK, Z.hc, Z.hr.mono h, Z.tk, Z.calm, Z.nd, Z.pass⟩
theorem AcEq.K (e : AcEq c c') (h : X.K = c.K) : X.K = c'.K := by rw [h, show c'.K = c'.toCn.K from rfl, e.cn]
theorem e_addS {a b : Expr} {pos : Pos} {fa fb : LSt → Res D} (hK : X.K = c.K) (ha : DE X c W a fa) (hb : DE X c W b fb) : DE X c W (.BinOp a .Add b pos) (sBin addD fa fb) := de_op op_addA (hK ▸ ok_add ⟨_, rfl⟩) ha hb
/-- f(lambda: e) -/
theorem e_thkJ {x : Str} {m : (G → FR) → G → FR} {fe : LSt → Res D} {params : Arguments} {body : Expr} {scope : Scope} {p lpos pos : Pos} {cc P : Addr} (Z : Ctx X c W cn (k + 2)) (T : ThkOk X.prog X.w X.K X.mg X.base cn j x m) (hj : j ≤ k + 1) (TB : LamX.TabB X.base X.mg cc P) (hcode : X.env.code = .ref cc)
    (hq : cn.tq P = some (X.env.qual ++ "<lambda>"))
    (hbody : ∀ (A : Around) (outer : List Env) (s : Shared) (H : Hp) (E : XK) (f c' : Addr) (c1 : Ac), Ctx (LamX.lamCx X A outer s H E scope f c') c1 (fun cls d _ H' => E cls d H') cn k → DE (LamX.lamCx X A outer s H E scope f c') c1 (fun cls d _ H' => E cls d H') body fe)
    (L : LamX.lamSB X.env.scope scope = true) (hdef : defaultsOf params X.env = ([], []) := by rfl)
    (hbind : ∀ (q : Str) (cl : List (Str × Addr)) (pm cv ctv : Value), bindArgs (PySem.W.kla_fn "<lambda>" q params body scope cl pm cv ctv) ⟨[], []⟩ = pure [] := by intros; rfl)
    (hg : Gl X x := by rfl) (hdb : (x == ("__debug__" : Str)) = false := by decide) : DE X c W (.Call (.Name x p) [.Lambda params body scope lpos] [] pos) (sThk m fe) :=
  e_thk Z (T.mono hj) TB hcode hq hbody (LamX.lamS_by L) hdef hbind hg hdb
end
end Dx

/-! Dx.Misc: gcd, empty dicts, walks over locked dicts, stars, sorted. -/
namespace Dx
open PySem PySem.Spec PyProof.Rows L2

/-! ### gcd -/
def gcdD : List D → Option D
  | [.int a, .int b] => some (.int ((Nat.gcd a.natAbs b.natAbs : Nat) : Int))
  | _ => none
theorem ok_gcd {c : Ac} : BltOk c rGcd gcdD := by
  intro Hf H σ l ds d vs Q R r e q
  match ds, e, r with
  | [.int a, .int b], e, r =>
    obtain ⟨x, y, rfl, h1, h2⟩ := rvals2 r
    cases e
    cases h1
    cases h2
    exact ⟨a, b, rfl, q.flat R rfl⟩
section
variable {X : Cx} {c : Ac} {W : WX} {cn : Cn} {k : Nat} {a b e : Expr} {es : List Expr} {pos p : Pos} {fa fb fe : LSt → Res D} {fs : LSt → Res (List D)} {x : Str}
theorem e_gcd (hm : X.mg x = some (.builtin "math.gcd")) (ha : DE X c W a fa) (hb : DE X c W b fb) (hg : Gl X x := by rfl) (hdb : (x == ("__debug__" : Str)) = false := by decide) (he : starEach [a, b] X.env = (false, eval a X.env) :: starEach [b] X.env := by rfl)
    (he2 : starEach [b] X.env = (false, eval b X.env) :: starEach [] X.env := by rfl) (hpl : (backTo pos (starEach [b] X.env)).any (·.1) = false := by rfl) : DE X c W (.Call (.Name x p) [a, b] [] pos) (sBlt gcdD (sCons fa (sCons fb sNil))) :=
  ⟨(pe_callBfun cr_gcd hg hm (da_cons ha (da_cons hb da_nil he2) he).pa hdb he hpl).imp' fun _ _ _ h => blt_run ok_gcd h⟩
/-! ### {} -/
def sDNew : LSt → Res CO := fun l => .ok (.dK [] []) l
def sDNewT : LSt → Res CO := fun l => .ok (.dT [] []) l
theorem do_dnew : DO X c W (.Dict [] [] pos) sDNew := ⟨pe_dnewK.imp' fun σ H Q ⟨Hf, l, R, h⟩ => fun p n => do_new (co := .dK [] []) R h n ⟨[], rfl, rfl, rfl⟩⟩
theorem do_dnewT : DO X c W (.Dict [] [] pos) sDNewT := ⟨pe_dnewT.imp' fun σ H Q ⟨Hf, l, R, h⟩ => fun p n => do_new (co := .dT [] []) R h n ⟨[], rfl, rfl, rfl⟩⟩
/-! ### stars -/
def sStar (a : LSt → Res D) (r : LSt → Res (List D)) : LSt → Res (List D) := fun l => (a l).bind fun d l => match seqD d with
  | some xs => (r l).bind fun ys l => .ok (xs ++ ys) l
  | none => .bad
theorem da_star (hK : X.K = c.K) (he : DE X c W e fe) (hr : DA X c W es fs) (hs : starEach (.Starred e p :: es) X.env = (true, eval e X.env) :: starEach es X.env := by rfl) : DA X c W (.Starred e p :: es) (sStar fe fs) :=
  ⟨(StX.pa_star he.pe hr.pa hs).imp' fun σ H Q ⟨Hf, l, R, h⟩ => run_bind PA'.mo R h fun d l1 v H1 Hf1 R1 s1 r1 h1 => by
    have key : ∀ xs : List D, seqD d = some xs → ∃ p vs, v = .ref p ∧ (SqT X.K H1 p vs ∨ SqL X.K H1 p vs) ∧ RVals c.toCn c.ad Hf1 xs vs := by
      intro xs e
      cases d with
      | tup ds =>
        cases e
        obtain ⟨a, vs, rfl, h2, t⟩ := r1
        exact ⟨a, vs, rfl, .inl (by rw [hK]; exact sameT R1.sub h2), t⟩
      | lst ds =>
        cases e
        obtain ⟨a, vs, rfl, h2, t⟩ := r1
        exact ⟨a, vs, rfl, .inr (SqL.of (R1.sub _ _ h2)), t⟩
      | _ => cases e
    cases e : seqD d with
    | none =>
      rw [e] at h1
      exact h1.elim
    | some xs =>
      rw [e] at h1
      obtain ⟨p, vs, ev, hq, rv⟩ := key xs e
      exact ⟨p, vs, ev, hq, run_bindA PA'.mo R1 h1 fun ys l2 us H2 Hf2 R2 s2 r2 h2 => h2 (vs ++ us) H2 Hf2 R2 (Same.refl _) ((RVals.mono s2 _ _ rv).append r2)⟩⟩
/-! ### sorted -/
def insI (i : Int) : List Int → List Int
  | [] => [i]
  | j :: r => if i ≤ j then i :: j :: r else j :: insI i r
def srtI : List Int → List Int
  | [] => []
  | i :: r => insI i (srtI r)
theorem insI_perm (i : Int) : ∀ l : List Int, (insI i l).Perm (i :: l)
  | [] => .refl _
  | j :: r => by
    unfold insI
    split
    · exact .refl _
    · exact ((insI_perm i r).cons j).trans (.swap i j r)
theorem srtI_perm : ∀ l : List Int, (srtI l).Perm l
  | [] => .refl _
  | i :: r => (insI_perm i (srtI r)).trans ((srtI_perm r).cons i)
theorem insI_sorted (i : Int) : ∀ l : List Int, l.Pairwise (· ≤ ·) → (insI i l).Pairwise (· ≤ ·)
  | [], _ => by simp [insI]
  | j :: r, h => by
    obtain ⟨h1, h2⟩ := List.pairwise_cons.mp h
    unfold insI
    split
    · rename_i q
      exact List.pairwise_cons.mpr ⟨fun x hx => by
        rcases List.mem_cons.mp hx with e | e
        · rw [e]; exact q
        · exact Int.le_trans q (h1 x e), h⟩
    · rename_i q
      refine List.pairwise_cons.mpr ⟨fun x hx => ?_, insI_sorted i r h2⟩
      rcases List.mem_cons.mp ((insI_perm i r).mem_iff.mp hx) with e | e
      · rw [e]; omega
      · exact h1 x e
theorem srtI_sorted : ∀ l : List Int, (srtI l).Pairwise (· ≤ ·)
  | [] => .nil
  | i :: r => insI_sorted i _ (srtI_sorted r)
theorem sorted_unique : ∀ {l m : List Int}, l.Perm m → l.Pairwise (· ≤ ·) → m.Pairwise (· ≤ ·) → l = m
  | [], m, p, _, _ => by rw [List.nil_perm.mp p]
  | i :: r, m, p, h1, h2 => by
    cases m with
    | nil => exact absurd p.symm (by simp)
    | cons j t =>
      obtain ⟨a1, a2⟩ := List.pairwise_cons.mp h1
      obtain ⟨b1, b2⟩ := List.pairwise_cons.mp h2
      have e1 : j ≤ i := by
        rcases List.mem_cons.mp (p.mem_iff.mp (List.mem_cons_self ..)) with e | e
        · omega
        · exact b1 _ e
      have e2 : i ≤ j := by
        rcases List.mem_cons.mp (p.mem_iff.mpr (List.mem_cons_self ..)) with e | e
        · omega
        · exact a1 _ e
      have e : i = j := by omega
      subst e
      rw [sorted_unique (List.perm_cons i |>.mp p) a2 b2]
def srtD : List D → Option D
  | [.lst ds] => (intsD ds).map fun ns => .lst ((srtI ns).map .int)
  | _ => none
theorem ints_rvals {cn : Cn} {ad : Ad} {H : Hp} : ∀ ns : List Int, RVals cn ad H (ns.map D.int) (ns.map V.int)
  | [] => rfl
  | _ :: r => ⟨_, _, rfl, rfl, ints_rvals r⟩
theorem ok_srt (hK : X.K = c.K) : BltOk c (rSortedI X.K) srtD := by
  intro Hf H σ l ds d vs Q R r e q
  match ds, e, r with
  | [.lst es], e, r =>
    obtain ⟨x, rfl, h1⟩ := rvals1 r
    obtain ⟨a, us, rfl, ha, t⟩ := h1
    have e : (intsD es).map (fun ns => D.lst ((srtI ns).map .int)) = some d := e
    obtain ⟨ns, e1, e2⟩ := Option.map_eq_some_iff.mp e
    have eu := intsD_get e1 t
    subst eu e2
    refine ⟨a, ns, rfl, SqL.of (R.sub _ _ ha), fun ns' p hp hs n => ?_⟩
    have : ns' = srtI ns := sorted_unique (hp.trans (srtI_perm ns).symm) hs (srtI_sorted ns)
    subst this
    exact q.new R n (RVal.lstNew (R.free n) (ints_rvals _))
theorem e_sorted (Z : Ctx X c W cn k) (hm : X.mg "sorted" = none) (ha : DE X c W a fa) (hg : Gl X "sorted" := by rfl) (he : starEach [a] X.env = (false, eval a X.env) :: starEach [] X.env := by rfl) : DE X c W (.Call (.Name "sorted" p) [a] [] pos) (sBlt srtD (sCons fa sNil)) :=
  de_blt cr_sortedI (ok_srt Z.hK) hg hm (by rfl) (da_cons ha da_nil he) (by decide) (by decide) he
end
/-! ### locked dicts walked -/
def kD : Key → D
  | .inl i => .int i
  | .inr x => .str x
theorem kD_v {cn : Cn} {ad : Ad} {H : Hp} (k : Key) : RVal cn ad H (kD k) (kV k) := by
  cases k <;> rfl
def itemsD : List Key → List D → List D
  | k :: ks, d :: ds => .tup [kD k, d] :: itemsD ks ds
  | _, _ => []
theorem itemsD_get : ∀ {ks : List Key} {ds : List D} {i : Nat} {d : D}, (itemsD ks ds)[i]? = some d → ∃ k x, ks[i]? = some k ∧ ds[i]? = some x ∧ d = .tup [kD k, x]
  | [], _, i, d, h => by simp [itemsD] at h
  | _ :: _, [], i, d, h => by simp [itemsD] at h
  | k :: ks, x :: ds, 0, d, h => by
    simp [itemsD] at h
    exact ⟨k, x, rfl, rfl, h.symm⟩
  | k :: ks, x :: ds, i + 1, d, h => by
    have h : (itemsD ks ds)[i]? = some d := by simpa [itemsD] using h
    simpa using itemsD_get h
theorem itemsD_length : ∀ {ks : List Key} {ds : List D}, ks.length = ds.length → (itemsD ks ds).length = ks.length
  | [], _, _ => by simp [itemsD]
  | _ :: _, [], h => by simp at h
  | _ :: ks, _ :: ds, h => by
    simp [itemsD, itemsD_length (ks := ks) (ds := ds) (by simpa using h)]
/-- what d.items() etc. gives -/
def sItm (fe : LSt → Res D) : LSt → Res (List D) := fun l => (fe l).bind fun d l => match d with
  | .dK ks ds => .ok (itemsD ks ds) l
  | _ => .bad
def sVls (fe : LSt → Res D) : LSt → Res (List D) := fun l => (fe l).bind fun d l => match d with
  | .dK _ ds => .ok ds l
  | _ => .bad
def sKys (fe : LSt → Res D) : LSt → Res (List D) := fun l => (fe l).bind fun d l => match d with
  | .dK ks _ => .ok (ks.map kD) l
  | _ => .bad
theorem zip_get {ks : List Key} {vs : List V} {i : Nat} {k : Key} {v : V} (h1 : ks[i]? = some k) (h2 : vs[i]? = some v) : (ks.zip vs)[i]? = some (k, v) := by
  rw [List.getElem?_zip_eq_some]
  exact ⟨h1, h2⟩
section
variable {c : Ac} {Hf1 : Hp} {d : Addr} {o : Obj} {ks : List Key} {vs : List V} {ds : List D}
theorem goodIt (h : Hf1 d = some (.frz o (.dK (ks.zip vs)))) (hl : ks.length = vs.length) (r : RVals c.toCn c.ad Hf1 ds vs) : GoodIt c (Iti d o (ks.zip vs)) Hf1 (itemsD ks ds) := by
  have hl2 : ks.length = ds.length := hl.trans r.length.symm
  intro Hf σ H l R s
  have hd : H d = some (.frz o (.dK (ks.zip vs))) := R.sub _ _ (s _ _ h)
  have hz : (ks.zip vs).length = ks.length := by rw [List.length_zip, ← hl, Nat.min_self]
  refine ⟨fun i x e => ?_, ⟨hd, by rw [itemsD_length hl2, hz]; exact Nat.le_refl _⟩⟩
  obtain ⟨k, y, ek, ey, rfl⟩ := itemsD_get e
  obtain ⟨v, ev, rv⟩ := r.get ey
  refine ⟨⟨hd, by rw [hz]; exact (List.getElem?_eq_some_iff.mp ek).1⟩, fun z H' hy => ?_⟩
  obtain ⟨T, k2, v2, e2, rfl, n, rfl⟩ := hy
  rw [zip_get ek ev] at e2
  cases e2
  have nf := R.free n
  exact ⟨upd Hf T (.tup [kV k, v]), same_upd nf, RVal.tupNew nf (.cons (kD_v k) (.cons (rv.mono s) .nil)), .inr ⟨T, _, n, rfl, rfl⟩⟩
theorem goodVl (h : Hf1 d = some (.frz o (.dK (ks.zip vs)))) (hl : ks.length = vs.length) (r : RVals c.toCn c.ad Hf1 ds vs) : GoodIt c (Itd d o (ks.zip vs)) Hf1 ds := by
  intro Hf σ H l R s
  have hd : H d = some (.frz o (.dK (ks.zip vs))) := R.sub _ _ (s _ _ h)
  have hz : (ks.zip vs).length = ks.length := by rw [List.length_zip, ← hl, Nat.min_self]
  refine ⟨fun i x e => ?_, ⟨hd, by rw [hz, hl, r.length]; exact Nat.le_refl _⟩⟩
  obtain ⟨v, ev, rv⟩ := r.get e
  have hi : i < ks.length := by rw [hl]; exact (List.getElem?_eq_some_iff.mp ev).1
  refine ⟨⟨hd, by rw [hz]; exact hi⟩, fun z H' hy => ?_⟩
  obtain ⟨rfl, k2, e2⟩ := hy
  rw [zip_get (List.getElem?_eq_getElem hi) ev] at e2
  cases e2
  exact ⟨Hf, Same.refl _, rv.mono s, .inl ⟨rfl, rfl⟩⟩
theorem goodKy (h : Hf1 d = some (.frz o (.dK (ks.zip vs)))) (hl : ks.length = vs.length) : GoodIt c (Itk d o (ks.zip vs)) Hf1 (ks.map kD) := by
  intro Hf σ H l R s
  have hd : H d = some (.frz o (.dK (ks.zip vs))) := R.sub _ _ (s _ _ h)
  have hz : (ks.zip vs).length = ks.length := by rw [List.length_zip, ← hl, Nat.min_self]
  refine ⟨fun i x e => ?_, ⟨hd, by rw [hz, List.length_map]; exact Nat.le_refl _⟩⟩
  rw [List.getElem?_map, Option.map_eq_some_iff] at e
  obtain ⟨k, ek, rfl⟩ := e
  have hi := (List.getElem?_eq_some_iff.mp ek).1
  refine ⟨⟨hd, by rw [hz]; exact hi⟩, fun z H' hy => ?_⟩
  obtain ⟨rfl, k2, v2, e2, rfl⟩ := hy
  rw [zip_get ek (List.getElem?_eq_getElem (by rw [← hl]; exact hi))] at e2
  cases e2
  exact ⟨Hf, Same.refl _, kD_v k, .inl ⟨rfl, rfl⟩⟩
end
section
variable {X : Cx} {c : Ac} {W : WX} {tg e : Expr} {elts : List Expr} {kk : Nat} {tpos apos cpos : Pos} {fe : LSt → Res D}
theorem di_items (he : DE X c W e fe) (hb : attributeBase e "items" X.env (eval e X.env) = eval e X.env := by rfl) (hl : (apos.endLine == cpos.line) = true := by rfl) : DI X c W (.Tuple elts kk tpos) (.Call (.Attribute e "items" apos) [] [] cpos) (sItm fe) :=
  ⟨(pi_items he.pe hb hl).imp' fun σ H R ⟨Hf, l, RR, h⟩ => run_bind walk_mo RR h fun d l1 v H1 Hf1 R1 s1 r1 h1 => by
    cases d with
    | dK ks ds =>
      obtain ⟨a, od, vs, rfl, ha, hl, r⟩ := r1
      exact ⟨a, od, _, rfl, R1.sub _ _ ha, h1 _ H1 Hf1 R1 (Same.refl _) (goodIt ha hl r)⟩
    | _ => exact h1.elim⟩
theorem di_vals (he : DE X c W e fe) (hb : attributeBase e "values" X.env (eval e X.env) = eval e X.env := by rfl) (hl : (apos.endLine == cpos.line) = true := by rfl) : DI X c W tg (.Call (.Attribute e "values" apos) [] [] cpos) (sVls fe) :=
  ⟨(pi_values he.pe hb hl).imp' fun σ H R ⟨Hf, l, RR, h⟩ => run_bind walk_mo RR h fun d l1 v H1 Hf1 R1 s1 r1 h1 => by
    cases d with
    | dK ks ds =>
      obtain ⟨a, od, vs, rfl, ha, hl, r⟩ := r1
      exact ⟨a, od, _, rfl, R1.sub _ _ ha, h1 _ H1 Hf1 R1 (Same.refl _) (goodVl ha hl r)⟩
    | _ => exact h1.elim⟩
theorem di_keys (he : DE X c W e fe) : DI X c W tg e (sKys fe) :=
  ⟨(pi_keys he.pe).imp' fun σ H R ⟨Hf, l, RR, h⟩ => run_bind walk_mo RR h fun d l1 v H1 Hf1 R1 s1 r1 h1 => by
    cases d with
    | dK ks ds =>
      obtain ⟨a, od, vs, rfl, ha, hl, r⟩ := r1
      exact ⟨a, od, rfl, .inl ⟨_, R1.sub _ _ ha, h1 _ H1 Hf1 R1 (Same.refl _) (goodKy ha hl)⟩⟩
    | _ => exact h1.elim⟩
end
end Dx

/-! Dx.Eq2: == of data that hold dicts, when they are alike. -/
namespace Dx
open PySem PySem.Spec PyProof.Rows L2

mutual
def deq : Nat → D → D → Bool
  | _, .non, .non => true
  | _, .bl a, .bl b => a == b
  | _, .int i, .int j => i == j
  | _, .str x, .str y => x == y
  | n + 1, .tup ds, .tup es => deqs n ds es
  | n + 1, .lst ds, .lst es => deqs n ds es
  | n + 1, .dK ks ds, .dK ls es => decide (ks = ls) && decide (ks.Nodup) && deqs n ds es
  | _, _, _ => false
def deqs : Nat → List D → List D → Bool
  | _, [], [] => true
  | n, d :: ds, e :: es => deq n d e && deqs n ds es
  | _, _, _ => false
end
theorem deqs_len : ∀ {n : Nat} {ds es : List D}, deqs n ds es = true → ds.length = es.length
  | _, [], [], _ => rfl
  | n, d :: ds, e :: es, h => by
    unfold deqs at h
    rw [List.length_cons, List.length_cons, deqs_len (Bool.and_eq_true_iff.mp h).2]
  | _, [], _ :: _, h => by simp [deqs] at h
  | _, _ :: _, [], h => by simp [deqs] at h
/-- alike data, by the heap -/
def Dq (cn : Cn) (ad : Ad) (H : Hp) (n : Nat) (x y : V) : Prop := ∃ d e, deq n d e = true ∧ RVal cn ad H d x ∧ RVal cn ad H e y
section
variable {cn : Cn} {ad : Ad} {H : Hp}
theorem dqs_pair : ∀ {n : Nat} {ds es : List D} {xs ys : List V}, deqs n ds es = true → RVals cn ad H ds xs → RVals cn ad H es ys → Paired (Dq cn ad H n) xs ys
  | n, [], [], xs, ys, _, r1, r2 => by
    cases (show xs = [] from r1)
    cases (show ys = [] from r2)
    exact .nil
  | n, d :: ds, e :: es, xs, ys, h, ⟨v, r, q1, h1, t1⟩, ⟨u, t, q2, h2, t2⟩ => by
    unfold deqs at h
    obtain ⟨a, b⟩ := Bool.and_eq_true_iff.mp h
    subst q1 q2
    exact .cons ⟨d, e, a, h1, h2⟩ (dqs_pair b t1 t2)
  | _, [], _ :: _, _, _, h, _, _ => by simp [deqs] at h
  | _, _ :: _, [], _, _, h, _, _ => by simp [deqs] at h
theorem val_of {xs ys : List V} {F : V → V → Prop} (hp : Paired F xs ys) : ∀ {ks : List Key}, ks.Nodup → ks.length = xs.length → ∀ p ∈ ks.zip xs, ∃ u, valV (ks.zip ys) p.1 = some u ∧ F p.2 u := by
  induction hp with
  | nil => intro ks _ _ p hm; simp at hm
  | @cons x y xs ys h t ih =>
    intro ks nd hl p hm
    cases ks with
    | nil => simp at hl
    | cons k ks =>
      have nd2 := List.nodup_cons.mp nd
      rw [List.zip_cons_cons] at hm ⊢
      rcases List.mem_cons.mp hm with rfl | hm
      · refine ⟨y, ?_, h⟩
        simp [valV]
      · obtain ⟨u, e, f⟩ := ih nd2.2 (by simpa using hl) p hm
        refine ⟨u, ?_, f⟩
        have ne : k ≠ p.1 := fun z => nd2.1 (z ▸ (List.of_mem_zip hm).1)
        simpa [valV, ne] using e
end
section
variable {X : Cx} {cn : Cn} {ad : Ad} {pins : List (Addr × Obj)} {σ : L2.St} {H : Hp} {s : Shared}
/-- alike lists, tuples, dicts -/
def DqR (cn : Cn) (ad : Ad) (H : Hp) (F : V → V → Prop) (x y : V) : Prop :=
  (∃ a b xs ys, x = .ref a ∧ y = .ref b ∧ H a = some (.lst xs) ∧ H b = some (.lst ys) ∧ Paired F xs ys) ∨
  (∃ a b xs ys, x = .ref a ∧ y = .ref b ∧ SqT cn.K H a xs ∧ SqT cn.K H b ys ∧ Paired F xs ys) ∨
  (∃ a b o1 o2 ks ls, x = .ref a ∧ y = .ref b ∧ H a = some (.frz o1 (.dK ks)) ∧ H b = some (.frz o2 (.dK ls)) ∧ ks.length = ls.length ∧ ∀ p ∈ ks, ∃ u, valV ls p.1 = some u ∧ F p.2 u)
theorem DqR.refs {F : V → V → Prop} {x y : V} (h : DqR cn ad H F x y) : ∃ a b, x = .ref a ∧ y = .ref b := by
  rcases h with ⟨a, b, _, _, e1, e2, _⟩ | ⟨a, b, _, _, e1, e2, _⟩ | ⟨a, b, _, _, _, _, e1, e2, _⟩ <;> exact ⟨a, b, e1, e2⟩
theorem dqR_run (hK : X.K = cn.K) (I : Inv X pins σ H s) {A : Around} {F : V → V → Prop} (hu : A.units < cLine) (ih : ∀ x y v u, F x y → RelV x v → RelV y u → SeqAt.EqP X.prog X.w A.in1 s v u true) {x y : V} {v u : Value} (h : DqR cn ad H F x y) (rx : RelV x v) (ry : RelV y u)
    (E Q : Value → Shared → Prop) (q : Q (.bool true) s) : wpAny (model X.prog X.w) A (richCompare .Eq v u) Q E s := by
  rcases h with ⟨a, b, xs, ys, rfl, rfl, ha, hb, hp⟩ | ⟨a, b, xs, ys, rfl, rfl, ha, hb, hp⟩ | ⟨a, b, o1, o2, ks, ls, rfl, rfl, ha, hb, hl, hp⟩
  · exact eqR_run I hu ih (.inl ⟨a, b, xs, ys, rfl, rfl, SqL.of ha, SqL.of hb, hp⟩) rx ry E Q q
  · cases (show v = Value.ref a from rx)
    cases (show u = Value.ref b from ry)
    rw [← hK] at ha hb
    obtain ⟨its, r, e, z⟩ := I.tuple ha
    obtain ⟨its2, r2, e2, z2⟩ := I.tuple hb
    have hsz : its.toArray.size = its2.toArray.size := by rw [List.size_toArray, List.size_toArray, ← r.length, ← r2.length]; exact Paired.length hp
    refine GQ.rc_tupG hsz hu (fun _ s' => s' = s) e e2 (fun i h1 h2 s' q' => ?_) (fun s' q' => by subst q'; exact q) rfl
    subst q'
    have k := items_run ih hp r r2 i (by simpa using h1) (by simpa using h2)
    have k2 := k E (fun r s2 => r = true ∧ s2 = s') ⟨rfl, rfl⟩
    simpa using k2
  · cases (show v = Value.ref a from rx)
    cases (show u = Value.ref b from ry)
    obtain ⟨_, _, ya, va, ra, da⟩ := (show ObjOk X.prog X.w H s.heap a (.frz o1 (.dK ks)) from I.hok a _ ha)
    obtain ⟨_, _, yb, vb, rb, db⟩ := (show ObjOk X.prog X.w H s.heap b (.frz o2 (.dK ls)) from I.hok b _ hb)
    refine PySem.W.rcP_dicts (knd := mixKind X.prog X.w) (r := true) ya yb da db hu (fun _ => hits_run ih rb ra hp) E Q ?_
    have e : va.length = vb.length := by rw [← ra.length, ← rb.length]; exact hl
    rw [show (va.length == vb.length && true) = true from by rw [e]; simp]
    exact q
theorem dq_split : ∀ {n : Nat} {d e : D} {x y : V}, deq n d e = true → RVal cn ad H d x → RVal cn ad H e y → (x = y ∧ flatB x = true) ∨ ∃ m, n = m + 1 ∧ DqR cn ad H (Dq cn ad H m) x y := by
  intro n d e x y h r1 r2
  unfold deq at h
  split at h
  · exact .inl ⟨r1.trans r2.symm, by rw [show x = .non from r1]; rfl⟩
  · rename_i a b
    cases (eq_of_beq h)
    exact .inl ⟨r1.trans r2.symm, by rw [show x = .bl a from r1]; rfl⟩
  · rename_i a b
    cases (eq_of_beq h)
    exact .inl ⟨r1.trans r2.symm, by rw [show x = .int a from r1]; rfl⟩
  · rename_i a b
    cases (eq_of_beq h)
    exact .inl ⟨r1.trans r2.symm, by rw [show x = .str a from r1]; rfl⟩
  · rename_i m ds es
    obtain ⟨a, xs, rfl, ha, ta⟩ := r1
    obtain ⟨b, ys, rfl, hb, tb⟩ := r2
    exact .inr ⟨m, rfl, .inr (.inl ⟨a, b, xs, ys, rfl, rfl, ha, hb, dqs_pair h ta tb⟩)⟩
  · rename_i m ds es
    obtain ⟨a, xs, rfl, ha, ta⟩ := r1
    obtain ⟨b, ys, rfl, hb, tb⟩ := r2
    exact .inr ⟨m, rfl, .inl ⟨a, b, xs, ys, rfl, rfl, ha, hb, dqs_pair h ta tb⟩⟩
  · rename_i m ks ds ls es
    simp only [Bool.and_eq_true, decide_eq_true_eq] at h
    obtain ⟨⟨h1, h2⟩, h3⟩ := h
    subst h1
    obtain ⟨a, oa, xs, rfl, ha, la, ta⟩ := r1
    obtain ⟨b, ob, ys, rfl, hb, lb, tb⟩ := r2
    have hp := dqs_pair h3 ta tb
    exact .inr ⟨m, rfl, .inr (.inr ⟨a, b, oa, ob, _, _, rfl, rfl, ha, hb, by rw [List.length_zip, List.length_zip, ← la, ← lb], val_of hp h2 la⟩)⟩
  · cases h
theorem dq_run (hK : X.K = cn.K) (I : Inv X pins σ H s) : ∀ (n : Nat) (A : Around), A.units + n < cLine → ∀ (x y : V) (v u : Value), Dq cn ad H n x y → RelV x v → RelV y u → SeqAt.EqP X.prog X.w A s v u true := by
  intro n
  induction n with
  | zero =>
    intro A hu x y v u ⟨d, e, h, r1, r2⟩ rx ry
    rcases dq_split h r1 r2 with ⟨rfl, f⟩ | ⟨m, e, _⟩
    · exact (eqAt_same rx ry f).eqP
    · cases e
  | succ n ih =>
    intro A hu x y v u ⟨d, e, h, r1, r2⟩ rx ry
    rcases dq_split h r1 r2 with ⟨rfl, f⟩ | ⟨m, e, hR⟩
    · exact (eqAt_same rx ry f).eqP
    · cases e
      have step := dqR_run hK I (A := A) (by omega) (ih A.in1 (by show A.units + 1 + n < cLine; omega)) hR rx ry
      obtain ⟨a, b, rfl, rfl⟩ := hR.refs
      cases (show v = Value.ref a from rx)
      cases (show u = Value.ref b from ry)
      by_cases e : a = b
      · subst e
        exact (SeqAt.EqAt.same _).eqP
      · exact SeqAt.eqP_refs e step
/-- a == b, alike lists, tuples or dicts -/
def rDq (cn : Cn) (ad : Ad) : R2 := fun x y H Q => DqR cn ad H (Dq cn ad H 40) x y ∧ Q (.bl true) H
theorem op_dq (hK : X.K = cn.K) (hu : X.A.units + 64 < cLine) : OpR X (compareOp .Eq) (rDq cn ad) := by
  intro pins s σ H x y v u Q I rx ry h
  exact dqR_run hK I (A := X.A) (by omega) (dq_run hK I 40 X.A.in1 (by show X.A.units + 1 + 40 < cLine; omega)) h.1 rx ry _ _ ⟨.bl true, H, I, rfl, h.2⟩
def rOr (r1 r2 : R2) : R2 := fun x y H Q => r1 x y H Q ∨ r2 x y H Q
theorem OpR.or {op : Value → Value → Sem Value} {r1 r2 : R2} (h1 : OpR X op r1) (h2 : OpR X op r2) : OpR X op (rOr r1 r2) := fun pins s σ H x y v u Q I rx ry h => (show r1 x y H Q ∨ r2 x y H Q from h).elim (h1 pins s σ H x y v u Q I rx ry) (h2 pins s σ H x y v u Q I rx ry)
end
def isFlat : D → Bool
  | .tup _ => false
  | .lst _ => false
  | .dK _ _ => false
  | _ => true
def eqX (d e : D) : Option D := if deq 41 d e && !isFlat d then some (.bl true) else eqD d e
theorem eqX_deq {d e : D} (h : deq 41 d e = true) (hf : isFlat d = false) : eqX d e = some (.bl true) := by
  unfold eqX
  rw [h, hf]
  rfl
theorem ok_eqX {c : Ac} : BinOk c (rOr (rEqD c.K) (rDq c.toCn c.ad)) eqX := by
  intro Hf H σ l d1 d2 d x y Q R r1 r2 e q
  unfold eqX at e
  split at e
  · rename_i hz
    obtain ⟨h1, h2⟩ := Bool.and_eq_true_iff.mp hz
    cases e
    rcases dq_split h1 (r1.mono R.sub) (r2.mono R.sub) with ⟨e2, f⟩ | ⟨m, e2, hR⟩
    · exfalso
      cases d1 <;> simp [isFlat] at h2
      · obtain ⟨_, _, z, _⟩ := r1; rw [z] at f; cases f
      · obtain ⟨_, _, z, _⟩ := r1; rw [z] at f; cases f
      · obtain ⟨_, _, _, z, _⟩ := r1; rw [z] at f; cases f
    · cases e2
      exact .inr ⟨hR, q.flat R rfl⟩
  · exact .inl (ok_eq _ _ _ _ _ _ _ _ _ _ R r1 r2 e q)
section
variable {X : Cx} {c : Ac} {W : WX} {cn : Cn} {k : Nat} {a b : Expr} {pos : Pos} {fa fb : LSt → Res D}
theorem e_eqX (Z : Ctx X c W cn k) (ha : DE X c W a fa) (hb : DE X c W b fb) : DE X c W (.Compare a [.Eq] [b] pos) (sBin eqX fa fb) := de_cmp ((op_eqD Z.hr.units).or (op_dq Z.hK Z.hr.units)) (Z.hK ▸ ok_eqX) ha hb (nomark _)
theorem t_eqX (Z : Ctx X c W cn k) (ha : DE X c W a fa) (hb : DE X c W b fb) : DT X c W (.Compare a [.Eq] [b] pos) (sTst (sBin eqX fa fb)) := dt_cmp ((op_eqD Z.hr.units).or (op_dq Z.hK Z.hr.units)) (Z.hK ▸ ok_eqX) ha hb (nomark _)
end
end Dx

/-! Dx.Ev: what mirrors compute: bounds, loops, the dice, runs of a law's parts. -/
namespace Dx
open PySem PySem.Spec PyProof.Rows L2
namespace Ev
/-! ### bounds -/
structure Bd (n : Nat) (i : Int) : Prop where
  le : i.natAbs ≤ n
theorem Bd.mul {n m : Nat} {i j : Int} (h : Bd n i) (k : Bd m j) : Bd (n * m) (i * j) := ⟨by rw [Int.natAbs_mul]; exact Nat.mul_le_mul h.le k.le⟩
theorem Bd.add {n m : Nat} {i j : Int} (h : Bd n i) (k : Bd m j) : Bd (n + m) (i + j) := ⟨Nat.le_trans (Int.natAbs_add_le i j) (Nat.add_le_add h.le k.le)⟩
theorem Bd.sub {n m : Nat} {i j : Int} (h : Bd n i) (k : Bd m j) : Bd (n + m) (i - j) := ⟨by have := h.le; have := k.le; omega⟩
theorem Bd.neg {n : Nat} {i : Int} (h : Bd n i) : Bd n (-i) := ⟨by have := h.le; omega⟩
theorem Bd.c (i : Int) : Bd i.natAbs i := ⟨Nat.le_refl _⟩
theorem bits_le {i : Int} (h : i.natAbs < 2 ^ 64) : ¬ Builtin.Int.intBits i > 64 := by
  unfold Builtin.Int.intBits
  split
  · omega
  · rename_i z
    have z' : i.natAbs ≠ 0 := fun q => z (by simp [Int.natAbs_eq_zero.mp q])
    have := (Nat.log2_lt z').mpr h
    omega
theorem mulOk_bd {n : Nat} {i j : Int} (h : Bd n i) (hn : n < 2 ^ 64) : mulOkB i j = true := by
  unfold mulOkB
  rw [decide_eq_false (bits_le (Nat.lt_of_le_of_lt h.le hn))]
  rfl
theorem mul_ok {i j : Int} (h : mulOkB i j = true) : mulD (.int i) (.int j) = some (.int (i * j)) := by
  exact if_pos h
theorem mod_ok {i j : Int} (h : 0 < j) : modD (.int i) (.int j) = some (.int (i % j)) := by
  exact if_pos h
theorem eqI (i j : Int) : eqD (.int i) (.int j) = some (.bl (decide (i = j))) := by
  show some (D.bl (i == j)) = _
  rw [show (i == j) = decide (i = j) from rfl]
theorem addI (i j : Int) : addD (.int i) (.int j) = some (.int (i + j)) := rfl
theorem subI (i j : Int) : subD (.int i) (.int j) = some (.int (i - j)) := rfl
theorem negI (i : Int) : negD (.int i) = some (.int (-i)) := rfl
theorem neI (i j : Int) : neD (.int i) (.int j) = some (.bl (!decide (i = j))) := rfl
theorem leI (i j : Int) : leD (.int i) (.int j) = some (.bl (decide (i ≤ j))) := rfl
theorem ltI (i j : Int) : ltD (.int i) (.int j) = some (.bl (decide (i < j))) := rfl
/-! ### loops over ranges -/
theorem for_any {t : Tgt} {b : LSt → Fl} {Inv : Nat → LSt → Prop} : ∀ (m k : Nat) (l : LSt), Inv k l → (∀ i l, k ≤ i → i < k + m → Inv i l → ∃ l1 l2, t (.int (0 + (i : Int))) l = some l1 ∧ b l1 = .nx l2 ∧ Inv (i + 1) l2) →
    ∃ l2, zFor t b ((List.range' k m).map fun i : Nat => D.int (0 + (i : Int))) l = .nx l2 ∧ Inv (k + m) l2
  | 0, k, l, h, _ => ⟨l, rfl, h⟩
  | m + 1, k, l, h, st => by
    obtain ⟨l1, l2, e1, e2, h2⟩ := st k l (Nat.le_refl _) (by omega) h
    obtain ⟨l3, e3, h3⟩ := for_any (t := t) (b := b) (Inv := Inv) m (k + 1) l2 h2 fun i l a c => st i l (by omega) (by omega)
    refine ⟨l3, ?_, by rw [show k + (m + 1) = k + 1 + m by omega]; exact h3⟩
    rw [List.range'_succ, List.map_cons]
    unfold zFor
    simp only [e1, e2]
    exact e3
theorem for_range {t : Tgt} {b : LSt → Fl} {Inv : Nat → LSt → Prop} (n : Nat) (l : LSt) (h : Inv 0 l) (st : ∀ (i : Nat) l, i < n → Inv i l → ∃ l1 l2, t (.int (0 + (i : Int))) l = some l1 ∧ b l1 = .nx l2 ∧ Inv (i + 1) l2) :
    ∃ l2, zFor t b (rangeD 0 n) l = .nx l2 ∧ Inv n l2 := by
  obtain ⟨l2, e, q⟩ := for_any (t := t) (b := b) (Inv := Inv) n 0 l h fun i l _ c => st i l (by omega)
  refine ⟨l2, ?_, by rw [Nat.zero_add] at q; exact q⟩
  unfold rangeD
  rw [List.range_eq_range']
  exact e
theorem rng_ok {p : Nat} (hp : p < 100) : rng1D [.int (p : Int)] = some (rangeD 0 p) := by
  have h1 : (p : Int).natAbs < 2 ^ 61 := by omega
  simp only [rng1D, h1, if_true, Int.toNat_natCast]
theorem bind_ok {α β : Type} (a : α) (l : LSt) (k : α → LSt → Res β) : (Res.ok a l).bind k = k a l := (rfl)
theorem opt_some {α : Type} (a : α) (l : LSt) : opt (some a) l = .ok a l := (rfl)
theorem mem_range {n : Nat} {d : D} (h : d ∈ rangeD 0 n) : ∃ i : Nat, i < n ∧ d = .int (0 + (i : Int)) := by
  unfold rangeD at h
  obtain ⟨i, h1, h2⟩ := List.mem_map.mp h
  exact ⟨i, List.mem_range.mp h1, h2.symm⟩
theorem szL_big {n : Nat} (h : n < 100) : 0 + n ≤ szL := by
  have : (100 : Nat) ≤ szL := by decide
  omega
theorem rangeD_len (n : Nat) : (rangeD 0 n).length = n := by
  unfold rangeD
  rw [List.length_map, List.length_range]
theorem seq_nx {a b : LSt → Fl} {l l1 : LSt} (h : a l = .nx l1) : zSeq a b l = b l1 := by
  unfold zSeq
  rw [h]
  rfl
/-! ### the dice -/
theorem gtI (i j : Int) : gtD (.int i) (.int j) = some (.bl (decide (j < i))) := rfl
theorem int1 (i : Int) : Dx.intD [.int i] = some (.int i) := rfl
theorem Bd.md (x m : Int) (h : 0 < m) : Bd m.natAbs (x % m) := ⟨by
  have h1 := Int.emod_nonneg x (b := m) (by omega)
  have h2 := Int.emod_lt_of_pos x h
  omega⟩
theorem div_ok {i j : Int} (h : 0 < j) (h2 : j.natAbs.log2 < 9000) : divD (.int i) (.int j) = some (.int (i / j)) := if_pos ⟨h, h2⟩
theorem p60 : powD (.int 10) (.int 60) = some (.int 1000000000000000000000000000000000000000000000000000000000000) := by kernel_rfl
theorem p57 : powD (.int 10) (.int 57) = some (.int 1000000000000000000000000000000000000000000000000000000000) := by kernel_rfl
theorem p17 : powD (.int 10) (.int 17) = some (.int 100000000000000000) := by kernel_rfl
theorem big : mulD (.int 1000000000000000000000000000000000000000000000000000000000000) (.int 1000000000000000000000000000000000000000000000000000000000) = some (.int 1000000000000000000000000000000000000000000000000000000000000000000000000000000000000000000000000000000000000000000000) := by kernel_rfl
theorem ab1 (i : Int) : absD [.int i] = some (.int (if i < 0 then -i else i)) := rfl
theorem mx1 (i j : Int) : maxD [.int i, .int j] = some (.int (if j > i then j else i)) := rfl
theorem mi1 (i j : Int) : minD [.int i, .int j] = some (.int (if j < i then j else i)) := rfl
theorem int2 (b : Bool) : Dx.intD [.bl b] = some (.int (if b = true then 1 else 0)) := rfl
theorem len_scr (ns : List Int) : lenD [.scr ns] = some (.int (ns.length : Nat)) := rfl
def b__law_dice : LSt → Fl := (zSeq (zSet 2 (sIf (sTst (sBin ltD (sVar 1) (sBlt lenD (sCons (sVar 0) sNil)))) (sBlt intD (sCons (sBin ixD (sVar 0) (sVar 1)) sNil)) (sBin addD (sBin mulD (sC (.int (71))) (sVar 1)) (sC (.int (23))))))
    (zSeq (zSet 3 (sBin modD (sBlt maxD (sCons (sC (.int (0))) (sCons (sBin subD (sBlt absD (sCons (sVar 2) sNil)) (sBin powD (sC (.int (10))) (sC (.int (17))))) sNil))) (sBin mulD (sBin powD (sC (.int (10))) (sC (.int (60)))) (sBin powD (sC (.int (10))) (sC (.int (57)))))))
    (zRetO (sLst (sCons (sVar 3) (sCons (sBin addD (sBin addD (sBin addD (sBin mulD (sBin modD (sBlt absD (sCons (sVar 2) sNil)) (sC (.int (1152921504606846803)))) (sC (.int (59)))) (sBin mulD (sC (.int (877))) (sVar 1))) (sBin mulD (sC (.int (47))) (sBlt intD (sCons (sBin ltD (sVar 2) (sC (.int (0)))) sNil)))) (sC (.int (5)))) (sCons (sC (.int (0))) sNil)))))))
def m__law_dice : Fm := mOf 4 2 b__law_dice
def b__law_roll : LSt → Fl := (zSeq (zIf (sTst (sBin gtD (sDie 0 0) (sC (.int (0))))) (zSeq (zSet 2 (sBin modD (sBlt intD (sCons (sDie 0 0) sNil)) (sVar 1)))
    (zSeq (zDie 0 0 (sBin divD (sDie 0 0) (sVar 1)))
    (zRet (sVar 2)))) zNext)
    (zSeq (zDie 0 2 (sBin addD (sDie 0 2) (sC (.int (1)))))
    (zSeq (zSet 3 (sBin modD (sBlt intD (sCons (sBin addD (sDie 0 1) (sBin mulD (sC (.int (86028157))) (sDie 0 2))) sNil)) (sC (.int (2305843009213693613)))))
    (zSeq (zSet 4 (sBin addD (sBin mulD (sBin modD (sBlt intD (sCons (sBin addD (sBin mulD (sVar 3) (sVar 3)) (sBin mulD (sC (.int (97))) (sDie 0 2))) sNil)) (sC (.int (2305843009213693669)))) (sC (.int (7654321)))) (sVar 3)))
    (zRet (sBin modD (sBlt intD (sCons (sBin divD (sVar 4) (sC (.int (131072)))) sNil)) (sVar 1)))))))
def m__law_roll : Fm := mOf 5 2 b__law_roll
def b__law_pick : LSt → Fl := (zRet (sBin ixD (sVar 1) (sCall m__law_roll (sCons (sVar 0) (sCons (sBlt lenD (sCons (sVar 1) sNil)) sNil)))))
def m__law_pick : Fm := mOf 2 2 b__law_pick
theorem ev_roll (t : Int × Int × Int) (n : Int) (h : 0 < n) (hn : n < 10000) : ∃ r t', m__law_roll [.dice, .int n] ⟨some t, none⟩ = .ok (.v (.int r)) ⟨some t', none⟩ ∧ 0 ≤ r ∧ r < n := by
  have sh : m__law_roll [.dice, .int n] ⟨some t, none⟩ = (b__law_roll ⟨[.v .dice, .v (.int n), .un, .un, .un], ⟨some t, none⟩⟩).fr := rfl
  have ln : n.natAbs.log2 < 14 := (Nat.log2_lt (by omega)).mpr (by omega)
  have dv : ∀ i : Int, divD (.int i) (.int n) = some (.int (i / n)) := fun i => div_ok h (by omega)
  have dv2 : ∀ i : Int, divD (.int i) (.int 131072) = some (.int (i / 131072)) := fun i => div_ok (by decide) (by decide +kernel)
  have m1 : ∀ i : Int, modD (.int i) (.int 2305843009213693613) = some (.int (i % 2305843009213693613)) := fun i => mod_ok (by decide)
  have m2 : ∀ i : Int, modD (.int i) (.int 2305843009213693669) = some (.int (i % 2305843009213693669)) := fun i => mod_ok (by decide)
  rw [sh]
  unfold b__law_roll
  by_cases d : 0 < t.1
  · refine ⟨t.1 % n, (t.1 / n, t.2.1, t.2.2), ?_, Int.emod_nonneg _ (by omega), Int.emod_lt_of_pos _ h⟩
    simp only [sDie, zDie, nth3, set3, LSt.withD, gtI, int1, d, decide_true, mod_ok h, dv, zSeq, zAsg, sVar, gTupD, gsCons, gSet, gsNil, optF, Option.bind_some, LSt.put, Res.toFl, Fl.seq, sBin, sUn, Res.bind, opt, mul_ok, addI, subI, negI, zSet, zRet, zRetN, zNext, zDrop, Fl.fr, eqI, neI, leI, ltI, sC, sTst, blD, sTru, truD, sNot, sAnd, sOr, sIf, zIf, sCons, sNil, sTup, sLst, sFrz, sBlt, sCall, sMth, frRes, LSt.withG, EV.d, CO.d, sAttr, fldD, sAndV, notD, sChain, zPar, zPar3, zAug, i2, lenD, absD, Dx.intD, tupD,
    Bool.not_true, Bool.not_false, Bool.false_eq_true, List.getElem?_cons_zero, List.getElem?_cons_succ, List.set_cons_zero, List.set_cons_succ, List.length_cons, List.length_nil, Nat.reduceAdd, reduceIte]
  · have ma : ∀ i : Int, mulD (.int 86028157) (.int i) = some (.int (86028157 * i)) := fun i => mul_ok (mulOk_bd (Bd.c _) (by decide))
    have mb : ∀ i : Int, mulD (.int 97) (.int i) = some (.int (97 * i)) := fun i => mul_ok (mulOk_bd (Bd.c _) (by decide))
    have mc : ∀ i : Int, mulD (.int (i % 2305843009213693613)) (.int (i % 2305843009213693613)) = some (.int ((i % 2305843009213693613) * (i % 2305843009213693613))) := fun i => mul_ok (mulOk_bd (Bd.md _ _ (by decide)) (by decide))
    have me : ∀ i : Int, mulD (.int (i % 2305843009213693669)) (.int 7654321) = some (.int ((i % 2305843009213693669) * 7654321)) := fun i => mul_ok (mulOk_bd (Bd.md _ _ (by decide)) (by decide))
    refine ⟨(((((t.2.1 + 86028157 * (t.2.2 + 1)) % 2305843009213693613) * ((t.2.1 + 86028157 * (t.2.2 + 1)) % 2305843009213693613) + 97 * (t.2.2 + 1)) % 2305843009213693669 * 7654321 + ((t.2.1 + 86028157 * (t.2.2 + 1)) % 2305843009213693613)) / 131072) % n, (t.1, t.2.1, t.2.2 + 1), ?_, Int.emod_nonneg _ (by omega), Int.emod_lt_of_pos _ h⟩
    simp only [sDie, zDie, nth3, set3, LSt.withD, gtI, int1, d, decide_false, mod_ok h, dv2, m1, m2, ma, mb, mc, me, zSeq, sVar, LSt.put, Res.toFl, Fl.seq, sBin, Res.bind, opt, addI, zSet, zRet, zNext, Fl.fr, sC, sTst, blD, zIf, sCons, sNil, sBlt,
      Bool.false_eq_true, List.getElem?_cons_zero, List.getElem?_cons_succ, List.set_cons_zero, List.set_cons_succ, reduceIte]
theorem ev_pick (t : Int × Int × Int) (ds : List D) (h0 : ds ≠ []) (hl : ds.length < 10000) : ∃ d t', m__law_pick [.dice, .lst ds] ⟨some t, none⟩ = .ok (.v d) ⟨some t', none⟩ ∧ d ∈ ds := by
  have hp : 0 < ds.length := List.length_pos_iff.mpr h0
  obtain ⟨r, t', e, r0, r1⟩ := ev_roll t (ds.length : Nat) (by omega) (by omega)
  have sh : m__law_pick [.dice, .lst ds] ⟨some t, none⟩ = (b__law_pick ⟨[.v .dice, .v (.lst ds)], ⟨some t, none⟩⟩).fr := rfl
  have hr : r.toNat < ds.length := by omega
  have ix : ixD (.lst ds) (.int r) = some ds[r.toNat] := by
    show atD ds r = _
    unfold atD
    rw [if_pos r0, List.getElem?_eq_getElem hr]
  refine ⟨ds[r.toNat], t', ?_, List.getElem_mem hr⟩
  rw [sh]
  unfold b__law_pick
  simp only [e, ix, zRet, sBin, sVar, sCall, sCons, sNil, sBlt, lenD, opt, Res.bind, Res.toFl, Fl.fr, LSt.withG, EV.d, List.getElem?_cons_zero, List.getElem?_cons_succ]
theorem ev_dice (ns : List Int) (k : Nat) (g : G) : ∃ x y z, m__law_dice [.scr ns, .int (0 + (k : Int))] g = .ok (.o (.lst [.int x, .int y, .int z])) g := by
  have sh : m__law_dice [.scr ns, .int (0 + (k : Int))] g = (b__law_dice ⟨[.v (.scr ns), .v (.int (0 + (k : Int))), .un, .un], g⟩).fr := rfl
  have sz3 : 3 ≤ szL := by decide
  have m1 : ∀ i : Int, modD (.int i) (.int 1152921504606846803) = some (.int (i % 1152921504606846803)) := fun i => mod_ok (by decide)
  have m2 : ∀ i : Int, modD (.int i) (.int 1000000000000000000000000000000000000000000000000000000000000000000000000000000000000000000000000000000000000000000000) = some (.int (i % 1000000000000000000000000000000000000000000000000000000000000000000000000000000000000000000000000000000000000000000000)) := fun i => mod_ok (by decide)
  have ma : ∀ i : Int, mulD (.int (i % 1152921504606846803)) (.int 59) = some (.int ((i % 1152921504606846803) * 59)) := fun i => mul_ok (mulOk_bd (Bd.md _ _ (by decide)) (by decide))
  have mb : ∀ i : Int, mulD (.int 877) (.int i) = some (.int (877 * i)) := fun i => mul_ok (mulOk_bd (Bd.c _) (by decide))
  have mc : ∀ i : Int, mulD (.int 47) (.int i) = some (.int (47 * i)) := fun i => mul_ok (mulOk_bd (Bd.c _) (by decide))
  have me : ∀ i : Int, mulD (.int 71) (.int i) = some (.int (71 * i)) := fun i => mul_ok (mulOk_bd (Bd.c _) (by decide))
  have cell : ∃ c : Int, sIf (sTst (sBin ltD (sVar 1) (sBlt lenD (sCons (sVar 0) sNil)))) (sBlt Dx.intD (sCons (sBin ixD (sVar 0) (sVar 1)) sNil)) (sBin addD (sBin mulD (sC (.int (71))) (sVar 1)) (sC (.int (23)))) ⟨[.v (.scr ns), .v (.int (0 + (k : Int))), .un, .un], g⟩ =
      .ok (.int c) ⟨[.v (.scr ns), .v (.int (0 + (k : Int))), .un, .un], g⟩ := by
    by_cases h : 0 + (k : Int) < (ns.length : Nat)
    · have ix : ixD (.scr ns) (.int (0 + (k : Int))) = some (.int (ns[k]'(by omega))) := by
        show (atD ns (0 + (k : Int))).map D.int = _
        unfold atD
        rw [if_pos (by omega), show (0 + (k : Int)).toNat = k by omega, List.getElem?_eq_getElem (by omega)]
        rfl
      refine ⟨ns[k]'(by omega), ?_⟩
      simp only [ix, len_scr, int1, h, decide_true, ltI, sIf, sTst, blD, sBin, sVar, sBlt, sCons, sNil, opt, Res.bind, List.getElem?_cons_zero, List.getElem?_cons_succ, reduceIte]
    · refine ⟨71 * (0 + (k : Int)) + 23, ?_⟩
      simp only [me, addI, sC, len_scr, h, decide_false, ltI, sIf, sTst, blD, sBin, sVar, sBlt, sCons, sNil, opt, Res.bind, Bool.false_eq_true, List.getElem?_cons_zero, List.getElem?_cons_succ, reduceIte]
  obtain ⟨c, ec⟩ := cell
  rw [sh]
  unfold b__law_dice
  refine ⟨(if (if c < 0 then -c else c) - 100000000000000000 > 0 then (if c < 0 then -c else c) - 100000000000000000 else 0) % 1000000000000000000000000000000000000000000000000000000000000000000000000000000000000000000000000000000000000000000000, (if c < 0 then -c else c) % 1152921504606846803 * 59 + 877 * (0 + (k : Int)) + 47 * (if decide (c < 0) = true then 1 else 0) + 5, 0, ?_⟩
  rw [seq_nx (l1 := ⟨[.v (.scr ns), .v (.int (0 + (k : Int))), .v (.int c), .un], g⟩) (by
    unfold zSet
    rw [ec]
    rfl)]
  simp only [zRetO, big, p60, p57, p17, ab1, mx1, int2, ltI, m1, m2, ma, mb, mc, addI, subI, sz3, zSeq, zSet, Res.toFl, Fl.seq, Fl.fr, sBin, sVar, sC, sCons, sNil, sLst, sBlt, opt, Res.bind, LSt.put,
    List.getElem?_cons_zero, List.getElem?_cons_succ, List.set_cons_zero, List.set_cons_succ, List.length_cons, List.length_nil, Nat.reduceAdd, reduceIte]
/-! ### a part of a law that answers True, whatever the dice show -/
/-- the dice are held; nothing is held -/
def sD (g : G) : Prop := ∃ t, g = ⟨some t, none⟩
def sN (g : G) : Prop := g = ⟨none, none⟩
def RT (S : G → Prop) (f : LSt → Fl) (l : List Slot) : Prop := ∀ g, S g → ∃ g', S g' ∧ (f ⟨l, g⟩).fr = .ok (.v (.bl true)) g'
/-- an expression that gives d and leaves the slots -/
def Ex (S : G → Prop) (f : LSt → Res D) (l : List Slot) (d : D) : Prop := ∀ g, S g → ∃ g', S g' ∧ f ⟨l, g⟩ = .ok d ⟨l, g'⟩
section
variable {S : G → Prop} {m : Fm} {fe fm fa fb : LSt → Res D} {rest fs : LSt → Fl} {l : List Slot} {i : Nat} {d : D} {ds es told : List D}
theorem Ex.of (h : ∀ g, fe ⟨l, g⟩ = .ok d ⟨l, g⟩) : Ex S fe l d := fun g hg => ⟨g, hg, h g⟩
theorem Ex.pick (pk : m = m__law_pick) (h0 : l[0]? = some (.v .dice)) (hm : ∀ g, fm ⟨l, g⟩ = .ok (.lst ds) ⟨l, g⟩) (hn : ds ≠ []) (hl : ds.length < 10000) {g : G} (hg : sD g) : ∃ d g', sD g' ∧ sCall m (sCons (sVar 0) (sCons fm sNil)) ⟨l, g⟩ = .ok d ⟨l, g'⟩ ∧ d ∈ ds := by
  subst pk
  obtain ⟨t, rfl⟩ := hg
  obtain ⟨d, t', e, hd⟩ := ev_pick t ds hn hl
  refine ⟨d, ⟨some t', none⟩, ⟨t', rfl⟩, ?_, hd⟩
  have ea : sCons (sVar 0) (sCons fm sNil) ⟨l, ⟨some t, none⟩⟩ = .ok [.dice, .lst ds] ⟨l, ⟨some t, none⟩⟩ := by
    simp only [sCons, sNil, sVar, h0, hm, Res.bind]
  unfold sCall
  rw [ea]
  show (match m__law_pick [.dice, .lst ds] ⟨some t, none⟩ with
    | .ok e g => Res.ok e.d (LSt.withG ⟨l, ⟨some t, none⟩⟩ g)
    | .ex x g => .ex x (LSt.withG ⟨l, ⟨some t, none⟩⟩ g)
    | .bad => .bad) = _
  rw [e]
  rfl
theorem RT.pick (pk : m = m__law_pick) (h0 : l[0]? = some (.v .dice)) (hm : ∀ g, fm ⟨l, g⟩ = .ok (.lst ds) ⟨l, g⟩) (hn : ds ≠ []) (hl : ds.length < 10000) (h : ∀ d ∈ ds, RT sD rest (l.set i (.v d))) :
    RT sD (zSeq (zSet i (sCall m (sCons (sVar 0) (sCons fm sNil)))) rest) l := fun g hg => by
  obtain ⟨d, g1, h1, e, hd⟩ := Ex.pick pk h0 hm hn hl hg
  obtain ⟨g2, h2, e2⟩ := h d hd g1 h1
  refine ⟨g2, h2, ?_⟩
  rw [seq_nx (l1 := ⟨l.set i (.v d), g1⟩) (by unfold zSet; rw [e]; rfl)]
  exact e2
theorem RT.set (he : Ex S fe l d) (h : RT S rest (l.set i (.v d))) : RT S (zSeq (zSet i fe) rest) l := fun g hg => by
  obtain ⟨g1, h1, e⟩ := he g hg
  obtain ⟨g2, h2, e2⟩ := h g1 h1
  refine ⟨g2, h2, ?_⟩
  rw [seq_nx (l1 := ⟨l.set i (.v d), g1⟩) (by unfold zSet; rw [e]; rfl)]
  exact e2
theorem RT.nx {l1 : List Slot} (he : ∀ g, fs ⟨l, g⟩ = .nx ⟨l1, g⟩) (h : RT S rest l1) : RT S (zSeq fs rest) l := fun g hg => by
  obtain ⟨g2, h2, e2⟩ := h g hg
  refine ⟨g2, h2, ?_⟩
  rw [seq_nx (he g)]
  exact e2
theorem RT.own1 (he : Ex S fe l d) (h : RT S rest (l.set i (.own (.lst [d])))) : RT S (zSeq (zSetO i (sLst (sCons fe sNil))) rest) l := fun g hg => by
  obtain ⟨g1, h1, e⟩ := he g hg
  obtain ⟨g2, h2, e2⟩ := h g1 h1
  refine ⟨g2, h2, ?_⟩
  have z1 : 1 ≤ szL := by decide
  rw [seq_nx (l1 := ⟨l.set i (.own (.lst [d])), g1⟩) (by simp only [zSetO, sLst, sCons, sNil, e, Res.bind, Res.toFl, LSt.put, List.length_cons, List.length_nil, Nat.zero_add, z1, reduceIte])]
  exact e2
theorem RT.app (ho : l[i]? = some (.own (.lst told))) (hz : told.length < 1000) (he : Ex S fe l d) (h : RT S rest (l.set i (.own (.lst (told ++ [d]))))) : RT S (zSeq (zDrop (sApp i fe)) rest) l := fun g hg => by
  obtain ⟨g1, h1, e⟩ := he g hg
  obtain ⟨g2, h2, e2⟩ := h g1 h1
  refine ⟨g2, h2, ?_⟩
  have z1 : told.length < szL := Nat.lt_of_lt_of_le hz (by decide)
  rw [seq_nx (l1 := ⟨l.set i (.own (.lst (told ++ [d]))), g1⟩) (by simp only [zDrop, sApp, ho, ownL, e, Res.bind, Res.toFl, LSt.put, z1, reduceIte])]
  exact e2
theorem RT.ret (he : Ex S fe l (.bl true)) : RT S (zRet fe) l := fun g hg => by
  obtain ⟨g1, h1, e⟩ := he g hg
  refine ⟨g1, h1, ?_⟩
  unfold zRet
  rw [e]
  rfl
/-- told == [..] -/
theorem RT.eq {l1 : List Slot} (ha : ∀ g, fa ⟨l, g⟩ = .ok (.lst ds) ⟨l1, g⟩) (hb : ∀ g, fb ⟨l1, g⟩ = .ok (.lst es) ⟨l1, g⟩) (hd : deqs 40 ds es = true) : RT S (zRet (sBin eqX fa fb)) l := fun g hg => by
  refine ⟨g, hg, ?_⟩
  have e : eqX (.lst ds) (.lst es) = some (.bl true) := eqX_deq (by show deqs 40 ds es = true; exact hd) rfl
  simp only [zRet, sBin, ha, hb, e, Res.bind, opt, Res.toFl, Fl.fr]
/-- a part, called with the dice -/
theorem RT.lend {n i : Nat} {b : LSt → Fl} (hb : RT sD b (.v .dice :: List.replicate (n - 1) .un)) {x y z : Int} (l : List Slot) (hi : l[i]? = some (.own (.lst [.int x, .int y, .int z]))) :
    ∃ x' y' z' : Int, sLend i (mOf n 1 b) sNil ⟨l, ⟨none, none⟩⟩ = .ok (.bl true) ⟨l.set i (.own (.lst [.int x', .int y', .int z'])), ⟨none, none⟩⟩ := by
  obtain ⟨g', ⟨⟨x', y', z'⟩, rfl⟩, e⟩ := hb ⟨some (x, y, z), none⟩ ⟨_, rfl⟩
  refine ⟨x', y', z', ?_⟩
  have e2 : mOf n 1 b [.dice] ⟨some (x, y, z), none⟩ = .ok (.v (.bl true)) ⟨some (x', y', z'), none⟩ := e
  simp only [sLend, hi, sNil, Res.bind, Option.bind_some, dice3, D.nods, if_true, e2, lendRes, EV.d, D.nod]
end
theorem forI_nx {f : LSt → Res (List D)} {t : Tgt} {b : LSt → Fl} {l l1 l2 : LSt} {ds : List D} (hw : f l = .ok ds l1) (e : zFor t b ds l1 = .nx l2) : zForI f t b l = .nx l2 := by
  unfold zForI
  rw [hw]
  exact e
theorem for_inv {t : Tgt} {b : LSt → Fl} {Inv : LSt → Prop} {P : D → Prop} : ∀ (ds : List D) (l : LSt), (∀ d ∈ ds, P d) → Inv l → (∀ d l, P d → Inv l → ∃ l1 l2, t d l = some l1 ∧ b l1 = .nx l2 ∧ Inv l2) → ∃ l2, zFor t b ds l = .nx l2 ∧ Inv l2
  | [], l, _, h, _ => ⟨l, rfl, h⟩
  | d :: ds, l, hp, h, st => by
    obtain ⟨l1, l2, e1, e2, h2⟩ := st d l (hp d List.mem_cons_self) h
    obtain ⟨l3, e3, h3⟩ := for_inv (t := t) (b := b) (Inv := Inv) (P := P) ds l2 (fun d hd => hp d (List.mem_cons_of_mem _ hd)) h2 st
    refine ⟨l3, ?_, h3⟩
    unfold zFor
    simp only [e1, e2]
    exact e3
theorem len_scr' (ns : List Int) : lenD [.scr ns] = some (.int (ns.length : Nat)) := rfl
/-- the law's loop over its cells -/
theorem law_loop (ns : List Int) (K : Nat) (hK : K < 90) {m : Fm} (dc : m = m__law_dice) {ct : LSt → Res Bool} {tl : List Slot}
    (test : ∀ (s1 : Slot) (x y z : Int), ∃ x' y' z' : Int, ct ⟨.v (.scr ns) :: s1 :: .own (.lst [.int x, .int y, .int z]) :: tl, ⟨none, none⟩⟩ = .ok false ⟨.v (.scr ns) :: s1 :: .own (.lst [.int x', .int y', .int z']) :: tl, ⟨none, none⟩⟩) :
    ∃ s1 s2, zForI (sWalk rng1D (sCons (sBlt maxD (sCons (sC (.int 1)) (sCons (sBlt minD (sCons (sC (.int K)) (sCons (sBlt lenD (sCons (sVar 0) sNil)) sNil))) sNil))) sNil)) (gSet 1)
      (zSeq (zSetO 2 (sCallO m (sCons (sVar 0) (sCons (sVar 1) sNil)))) (zIf ct (zRet (sC (.bl false))) zNext)) ⟨.v (.scr ns) :: .un :: .un :: tl, ⟨none, none⟩⟩ = .nx ⟨.v (.scr ns) :: s1 :: s2 :: tl, ⟨none, none⟩⟩ := by
  subst dc
  have loop := for_range (t := gSet 1) (b := (zSeq (zSetO 2 (sCallO m__law_dice (sCons (sVar 0) (sCons (sVar 1) sNil)))) (zIf ct (zRet (sC (.bl false))) zNext)))
    (Inv := fun i l => ∃ s1 s2, l = ⟨.v (.scr ns) :: s1 :: s2 :: tl, ⟨none, none⟩⟩) (max 1 (min K ns.length)) ⟨.v (.scr ns) :: .un :: .un :: tl, ⟨none, none⟩⟩ ⟨.un, .un, rfl⟩ (fun i l _ ⟨s1, s2, e⟩ => by
      subst e
      obtain ⟨x, y, z, ed⟩ := ev_dice ns i ⟨none, none⟩
      obtain ⟨x1, y1, z1, e1⟩ := test (.v (.int (0 + (i : Int)))) x y z
      refine ⟨_, _, rfl, ?_, .v (.int (0 + (i : Int))), .own (.lst [.int x1, .int y1, .int z1]), rfl⟩
      simp only [ed, e1, zSeq, zSetO, zIf, zNext, Res.toFl, Fl.seq, sCallO, sCons, sNil, sVar, Res.bind, LSt.put, LSt.withG, Bool.false_eq_true, List.getElem?_cons_zero, List.getElem?_cons_succ, List.set_cons_zero, List.set_cons_succ, reduceIte])
  obtain ⟨l2, el, s1, s2, rfl⟩ := loop
  have hw : sWalk rng1D (sCons (sBlt maxD (sCons (sC (.int 1)) (sCons (sBlt minD (sCons (sC (.int K)) (sCons (sBlt lenD (sCons (sVar 0) sNil)) sNil))) sNil))) sNil) ⟨.v (.scr ns) :: .un :: .un :: tl, ⟨none, none⟩⟩ = .ok (rangeD 0 (max 1 (min K ns.length))) ⟨.v (.scr ns) :: .un :: .un :: tl, ⟨none, none⟩⟩ := by
    have ea : (sCons (sBlt maxD (sCons (sC (.int 1)) (sCons (sBlt minD (sCons (sC (.int K)) (sCons (sBlt lenD (sCons (sVar 0) sNil)) sNil))) sNil))) sNil) ⟨.v (.scr ns) :: .un :: .un :: tl, ⟨none, none⟩⟩ = .ok [.int ((max 1 (min K ns.length) : Nat) : Int)] ⟨.v (.scr ns) :: .un :: .un :: tl, ⟨none, none⟩⟩ := by
      simp only [sCons, sNil, sBlt, sVar, sC, len_scr', mi1, mx1, opt, Res.bind, List.getElem?_cons_zero]
      congr 3
      split <;> split <;> omega
    unfold sWalk
    rw [ea, bind_ok, rng_ok (by omega), opt_some]
  refine ⟨s1, s2, ?_⟩
  unfold zForI
  rw [hw]
  exact el
/-- the same with any body -/
theorem law_loopB (ns : List Int) (K : Nat) (hK : K < 90) {m : Fm} (dc : m = m__law_dice) {B : LSt → Fl} {tl : List Slot}
    (test : ∀ (s1 : Slot) (x y z : Int), ∃ x' y' z' : Int, B ⟨.v (.scr ns) :: s1 :: .own (.lst [.int x, .int y, .int z]) :: tl, ⟨none, none⟩⟩ = .nx ⟨.v (.scr ns) :: s1 :: .own (.lst [.int x', .int y', .int z']) :: tl, ⟨none, none⟩⟩) :
    ∃ s1 s2, zForI (sWalk rng1D (sCons (sBlt maxD (sCons (sC (.int 1)) (sCons (sBlt minD (sCons (sC (.int K)) (sCons (sBlt lenD (sCons (sVar 0) sNil)) sNil))) sNil))) sNil)) (gSet 1)
      (zSeq (zSetO 2 (sCallO m (sCons (sVar 0) (sCons (sVar 1) sNil)))) B) ⟨.v (.scr ns) :: .un :: .un :: tl, ⟨none, none⟩⟩ = .nx ⟨.v (.scr ns) :: s1 :: s2 :: tl, ⟨none, none⟩⟩ := by
  subst dc
  have loop := for_range (t := gSet 1) (b := (zSeq (zSetO 2 (sCallO m__law_dice (sCons (sVar 0) (sCons (sVar 1) sNil)))) B))
    (Inv := fun i l => ∃ s1 s2, l = ⟨.v (.scr ns) :: s1 :: s2 :: tl, ⟨none, none⟩⟩) (max 1 (min K ns.length)) ⟨.v (.scr ns) :: .un :: .un :: tl, ⟨none, none⟩⟩ ⟨.un, .un, rfl⟩ (fun i l _ ⟨s1, s2, e⟩ => by
      subst e
      obtain ⟨x, y, z, ed⟩ := ev_dice ns i ⟨none, none⟩
      obtain ⟨x1, y1, z1, e1⟩ := test (.v (.int (0 + (i : Int)))) x y z
      refine ⟨_, _, rfl, ?_, .v (.int (0 + (i : Int))), .own (.lst [.int x1, .int y1, .int z1]), rfl⟩
      simp only [ed, e1, zSeq, zSetO, Res.toFl, Fl.seq, sCallO, sCons, sNil, sVar, Res.bind, LSt.put, LSt.withG, Bool.false_eq_true, List.getElem?_cons_zero, List.getElem?_cons_succ, List.set_cons_zero, List.set_cons_succ, reduceIte])
  obtain ⟨l2, el, s1, s2, rfl⟩ := loop
  have hw : sWalk rng1D (sCons (sBlt maxD (sCons (sC (.int 1)) (sCons (sBlt minD (sCons (sC (.int K)) (sCons (sBlt lenD (sCons (sVar 0) sNil)) sNil))) sNil))) sNil) ⟨.v (.scr ns) :: .un :: .un :: tl, ⟨none, none⟩⟩ = .ok (rangeD 0 (max 1 (min K ns.length))) ⟨.v (.scr ns) :: .un :: .un :: tl, ⟨none, none⟩⟩ := by
    have ea : (sCons (sBlt maxD (sCons (sC (.int 1)) (sCons (sBlt minD (sCons (sC (.int K)) (sCons (sBlt lenD (sCons (sVar 0) sNil)) sNil))) sNil))) sNil) ⟨.v (.scr ns) :: .un :: .un :: tl, ⟨none, none⟩⟩ = .ok [.int ((max 1 (min K ns.length) : Nat) : Int)] ⟨.v (.scr ns) :: .un :: .un :: tl, ⟨none, none⟩⟩ := by
      simp only [sCons, sNil, sBlt, sVar, sC, len_scr', mi1, mx1, opt, Res.bind, List.getElem?_cons_zero]
      congr 3
      split <;> split <;> omega
    unfold sWalk
    rw [ea, bind_ok, rng_ok (by omega), opt_some]
  refine ⟨s1, s2, ?_⟩
  unfold zForI
  rw [hw]
  exact el
/-- not part(dice) -/
theorem not_lend {n : Nat} {b : LSt → Fl} {m : Fm} (em : m = mOf n 1 b) (hb : RT sD b (.v .dice :: List.replicate (n - 1) .un)) (s0 s1 : Slot) (x y z : Int) (tl : List Slot) :
    ∃ x' y' z' : Int, sNot (sTru (sLend 2 m sNil)) ⟨s0 :: s1 :: .own (.lst [.int x, .int y, .int z]) :: tl, ⟨none, none⟩⟩ = .ok false ⟨s0 :: s1 :: .own (.lst [.int x', .int y', .int z']) :: tl, ⟨none, none⟩⟩ := by
  subst em
  obtain ⟨x', y', z', e⟩ := RT.lend hb (i := 2) (x := x) (y := y) (z := z) (s0 :: s1 :: .own (.lst [.int x, .int y, .int z]) :: tl) rfl
  refine ⟨x', y', z', ?_⟩
  simp only [sNot, sTru, e, Res.bind, truD, opt, Bool.not_true, List.set_cons_succ, List.set_cons_zero]
theorem RT.retx {S : G → Prop} {fe : LSt → Res D} {l l1 : List Slot} (he : ∀ g, fe ⟨l, g⟩ = .ok (.bl true) ⟨l1, g⟩) : RT S (zRet fe) l := fun g hg => by
  refine ⟨g, hg, ?_⟩
  unfold zRet
  rw [he g]
  rfl
theorem RT.step {S : G → Prop} {fs rest : LSt → Fl} {l : List Slot} (h : ∀ g, S g → ∃ g' l', S g' ∧ fs ⟨l, g⟩ = .nx ⟨l', g'⟩ ∧ RT S rest l') : RT S (zSeq fs rest) l := fun g hg => by
  obtain ⟨g1, l1, h1, e, hr⟩ := h g hg
  obtain ⟨g2, h2, e2⟩ := hr g1 h1
  refine ⟨g2, h2, ?_⟩
  rw [seq_nx e]
  exact e2
theorem sCallK_ok {n j : Nat} {m : Fm} {fa fk : LSt → Res (List D)} {l : List Slot} {g g1 : G} {ds es : List D} {d : D} (ha : fa ⟨l, g⟩ = .ok ds ⟨l, g⟩) (hk : fk ⟨l, g⟩ = .ok es ⟨l, g1⟩) (hn : ds.length = n ∧ es.length = j) (hm : m (ds ++ es) g1 = .ok (.v d) g1) : sCallK n j m fa fk ⟨l, g⟩ = .ok d ⟨l, g1⟩ := by
  unfold sCallK
  rw [ha]
  show ((fk ⟨l, g⟩).bind fun es l => if ds.length = n ∧ es.length = j then frRes l (m (ds ++ es) l.g) else .bad) = _
  rw [hk]
  show (if ds.length = n ∧ es.length = j then frRes ⟨l, g1⟩ (m (ds ++ es) g1) else .bad) = _
  rw [if_pos hn, hm]
  rfl
theorem two_ok {fa fb : LSt → Res D} {t : Tgt} {l : List Slot} {l2 : LSt} {g g1 : G} {x y : D} (ha : fa ⟨l, g⟩ = .ok x ⟨l, g⟩) (hb : fb ⟨l, g⟩ = .ok y ⟨l, g1⟩) (ht : t (.tup [x, y]) ⟨l, g1⟩ = some l2) : zAsg (sTup (sCons fa (sCons fb sNil))) t ⟨l, g⟩ = .nx l2 := by
  have z2 : 2 ≤ szL := by decide
  simp only [zAsg, sTup, sCons, sNil, ha, hb, Res.bind, List.length_cons, List.length_nil, Nat.reduceAdd, z2, reduceIte, Res.toFl, ht, optF]
theorem law_end {n : Nat} {ns : List Int} {f rest : LSt → Fl} {l1 : List Slot} (e : f ⟨.v (.scr ns) :: List.replicate (n - 1) .un, ⟨none, none⟩⟩ = .nx ⟨l1, ⟨none, none⟩⟩) (h : RT sN rest l1) : ∃ g, mOf n 1 (zSeq f rest) [.scr ns] ⟨none, none⟩ = .ok (.v (.bl true)) g := by
  obtain ⟨g, _, e2⟩ := h ⟨none, none⟩ rfl
  refine ⟨g, ?_⟩
  show (zSeq f rest ⟨.v (.scr ns) :: List.replicate (n - 1) .un, ⟨none, none⟩⟩).fr = _
  rw [seq_nx e]
  exact e2
theorem sCall_ok {m : Fm} {fa : LSt → Res (List D)} {l : List Slot} {g g1 : G} {ds : List D} {d : D} (ha : fa ⟨l, g⟩ = .ok ds ⟨l, g⟩) (hm : m ds g = .ok (.v d) g1) : sCall m fa ⟨l, g⟩ = .ok d ⟨l, g1⟩ := by
  unfold sCall
  rw [ha]
  show (match m ds g with
    | .ok e g => Res.ok e.d (LSt.withG ⟨l, g⟩ g)
    | .ex x g => .ex x (LSt.withG ⟨l, g⟩ g)
    | .bad => .bad) = _
  rw [hm]
  rfl
theorem mulOk_bd2 {n : Nat} {i j : Int} (h : Bd n j) (hn : n < 2 ^ 64) : mulOkB i j = true := by
  unfold mulOkB
  rw [decide_eq_false (bits_le (Nat.lt_of_le_of_lt h.le hn))]
  simp
end Ev
end Dx

/-! Dx.Rep: repr of None, bools, ints and texts; list(..). -/
namespace Dx
open PySem PySem.Spec PyProof.Rows L2

def rReprF : List V → Hp → VK → Prop := fun xs H Q => (xs = [.non] ∧ Q (.str "None") H) ∨ (∃ b, xs = [.bl b] ∧ Q (.str (if b then "True" else "False")) H) ∨ (∃ i : Int, xs = [.int i] ∧ i.natAbs.log2 < 1920 ∧ Q (.str (toString i)) H) ∨
  ∃ x : Str, xs = [.str x] ∧ (reprText x).length ≤ sizeLine ∧ Q (.str (reprText x)) H
theorem cr_reprF {X : Cx} : CallR X (.builtin "repr") rReprF := by
  intro pins s σ H xs us Q I r h
  rcases h with ⟨rfl, q⟩ | ⟨b, rfl, q⟩ | ⟨i, rfl, hz, q⟩ | ⟨x, rfl, hz, q⟩
  · cases r with
    | cons h1 t =>
      cases t
      cases h1
      exact PySem.P.repr_of_none ⟨.str _, H, I.tok _, ⟨_, rfl⟩, q⟩
  · cases r with
    | cons h1 t =>
      cases t
      cases h1
      refine PySem.P.repr_of_bool ⟨.str _, H, I.tok _, ⟨s.toks, ?_⟩, q⟩
      cases b <;> rfl
  · cases r with
    | cons h1 t =>
      cases t
      obtain ⟨t, rfl⟩ := h1
      exact PySem.P.repr_of_int hz ⟨.str _, H, I.tok _, ⟨_, rfl⟩, q⟩
  · cases r with
    | cons h1 t =>
      cases t
      obtain ⟨t, rfl⟩ := h1
      exact PySem.P.repr_of_str ⟨.str _, H, I.tok _, ⟨_, rfl⟩, q⟩ hz
def reprD : List D → Option D
  | [.non] => some (.str "None")
  | [.bl b] => some (.str (if b then "True" else "False"))
  | [.int i] => if i.natAbs.log2 < 1920 then some (.str (toString i)) else none
  | [.str x] => if (reprText x).length ≤ szL then some (.str (reprText x)) else none
  | _ => none
theorem ok_repr {c : Ac} : BltOk c rReprF reprD := by
  intro Hf H σ l ds d vs Q R r e q
  match ds, e, r with
  | [.non], e, r =>
    obtain ⟨x, rfl, h1⟩ := rvals1 r
    cases e
    cases h1
    exact .inl ⟨rfl, q.flat R rfl⟩
  | [.bl b], e, r =>
    obtain ⟨x, rfl, h1⟩ := rvals1 r
    cases e
    cases h1
    exact .inr (.inl ⟨b, rfl, q.flat R rfl⟩)
  | [.int i], e, r =>
    obtain ⟨x, rfl, h1⟩ := rvals1 r
    cases h1
    have e : (if i.natAbs.log2 < 1920 then some (D.str (toString i)) else none) = some d := e
    split at e
    · rename_i hz
      cases e
      exact .inr (.inr (.inl ⟨i, rfl, hz, q.flat R rfl⟩))
    · cases e
  | [.str x], e, r =>
    obtain ⟨y, rfl, h1⟩ := rvals1 r
    cases h1
    have e : (if (reprText x).length ≤ szL then some (D.str (reprText x)) else none) = some d := e
    split at e
    · rename_i hz
      cases e
      exact .inr (.inr (.inr ⟨x, rfl, by rw [← szL_eq]; exact hz, q.flat R rfl⟩))
    · cases e
section
variable {X : Cx} {c : Ac} {W : WX} {a : Expr} {p pos : Pos} {fa : LSt → Res D}
theorem e_repr (hm : X.mg "repr" = none) (ha : DE X c W a fa) (hg : Gl X "repr" := by rfl) (he : starEach [a] X.env = (false, eval a X.env) :: starEach [] X.env := by rfl) : DE X c W (.Call (.Name "repr" p) [a] [] pos) (sBlt reprD (sCons fa sNil)) :=
  de_blt cr_reprF ok_repr hg hm (by rfl) (da_cons ha da_nil he) (by decide) (by decide) he
end
/-! ### list(x) -/
def sLstOf (fe : LSt → Res D) : LSt → Res CO := fun l => (fe l).bind fun d l => match d with
  | .tup ds => .ok (.lst ds) l
  | .lst ds => .ok (.lst ds) l
  | _ => .bad
section
variable {X : Cx} {c : Ac} {W : WX} {a : Expr} {p pos : Pos} {fa : LSt → Res D}
theorem do_list (hK : X.K = c.K) (hm : X.mg "list" = none) (ha : DE X c W a fa) (hg : Gl X "list" := by rfl) (he : starEach [a] X.env = (false, eval a X.env) :: starEach [] X.env := by rfl) : DO X c W (.Call (.Name "list" p) [a] [] pos) (sLstOf fa) :=
  ⟨(pe_callTy call_list_of hg hm (by rfl) (pa_cons ha.pe pa_nil he) (by decide) (by decide) he (by rfl)).imp' fun σ H Q ⟨Hf, l, R, h⟩ => run_bind PO'.mo R h fun d l1 v H1 Hf1 R1 s1 r1 h1 => by
    cases d with
    | tup ds =>
      obtain ⟨q, vs, rfl, hq, rv⟩ := r1
      exact ⟨q, vs, rfl, .inr (by rw [hK]; exact sameT R1.sub hq), fun l n => do_new R1 h1 n ⟨vs, rfl, rv⟩⟩
    | lst ds =>
      obtain ⟨q, vs, rfl, hq, rv⟩ := r1
      exact ⟨q, vs, rfl, .inl (SqL.of (R1.sub _ _ hq)), fun l n => do_new R1 h1 n ⟨vs, rfl, rv⟩⟩
    | _ => exact h1.elim⟩
end
/-! ### x[j] += e, x an own list of ints -/
theorem get_list {X : Cx} : PGet X (rIxL X.K) := by
  intro pins s σ H x y v u Q I rx ry h
  obtain ⟨p, xs, i, w, rfl, rfl, hq, he, q⟩ := h
  cases rx
  obtain ⟨t, rfl⟩ := ry
  obtain ⟨its, r, pl, hz⟩ := I.list hq
  obtain ⟨j, h1, h2, h3, h4, h5⟩ := atI_get he
  obtain ⟨a, ea, ra⟩ := r.get h2
  have hl := r.length
  have hn := line63
  have fin : EP X pins σ Q a s := ⟨w, H, I, ra, q⟩
  by_cases h0 : 0 ≤ i
  · have hj : i.toNat = j := by
      rw [seqIndex_of h0 h5] at h1
      exact Option.some.inj h1
    exact wpAny_getItem_list pl.isList h0 (by omega) (by rw [hj]; simpa using ea) fin
  · have hj : (i + (its.toArray.size : Int)).toNat = j := by
      rw [seqIndex_neg (by omega) h4] at h1
      rw [List.size_toArray, ← hl]
      exact Option.some.inj h1
    exact wpAny_getItem_list_neg pl.isList (by omega) (by rw [List.size_toArray] <;> omega) (by omega) (by rw [hj]; simpa using ea) fin
def zOwnAug (i : Nat) (g : D → D → Option D) (fj fe : LSt → Res D) : LSt → Fl := fun l => (match ownL (l.sl[i]?) with
  | some _ => (fj l).toFl fun j l => (match ownL (l.sl[i]?) with
    | some ds => (match ixD (.lst ds) j with
      | some x => (fe l).toFl fun y l => (match ownL (l.sl[i]?), g x y, j with
        | some ds, some z, .int n => (match atN ds.length n with
          | some k => .nx (l.put i (.own (.lst (ds.set k z))))
          | none => .bad)
        | _, _, _ => .bad)
      | none => .bad)
    | none => .bad)
  | none => .bad)
section
variable {X : Cx} {c : Ac} {W : WX} {x : Str} {np pos pos' : Pos} {i : Nat} {e j : Expr} {fe fj : LSt → Res D} {op : Operator} {r : TIp} {g : D → D → Option D}
theorem ds_ownAug (hK : X.K = c.K) (pv : PE X (.Name x np) (tVar i)) (hj : DE X c W j fj) (he : DE X c W e fe) (ho : PIp X op r) (ok : BinOk c r g)
    (ha : ∀ ov iv new, augStore j ov iv new = (do holding [new, ov, iv] (setItem ov iv new); release [new, ov, iv] []; pure .next) := by intros; rfl) : DS X c W (.AugAssign (.Subscript (.Name x np) j pos') op e pos) (zOwnAug i g fj fe) :=
  ⟨(ps_augS pv hj.pe get_list he.pe ho set_list ha).imp' fun D σ H ⟨Hf, l, R, h⟩ => by
    unfold zOwnAug at h
    cases e1 : ownL (l.sl[i]?) with
    | none =>
      rw [e1] at h
      exact h.elim
    | some ds0 =>
      rw [e1] at h
      obtain ⟨a, o, ea, _⟩ := R.own (ownL_eq e1)
      refine ⟨.ref a, ea, to_bind R h fun jd l1 jv H1 Hf1 R1 s1 r1 h1 => ?_⟩
      cases e2 : ownL (l1.sl[i]?) with
      | none =>
        rw [e2] at h1
        exact h1.elim
      | some ds =>
        rw [e2] at h1
        obtain ⟨a', o', ea', ha', rc', _⟩ := R1.own (ownL_eq e2)
        rw [ea] at ea'
        cases ea'
        obtain ⟨vs, rfl, rv⟩ := rc'
        cases jd with
        | int n =>
          have h1 : wpF c W D Hf1 (match atD ds n with
            | some x => (fe l1).toFl fun y l => (match ownL (l.sl[i]?), g x y, (Dx.D.int n : Dx.D) with
              | some ds, some z, .int n => (match atN ds.length n with
                | some k => .nx (l.put i (.own (.lst (ds.set k z))))
                | none => .bad)
              | _, _, _ => .bad)
            | none => .bad) := h1
          cases e3 : atD ds n with
          | none =>
            rw [e3] at h1
            exact h1.elim
          | some y =>
            rw [e3] at h1
            obtain ⟨w, q1, q2⟩ := rv.atD e3
            refine ⟨a, vs, n, w, rfl, r1, SqL.of ha', q1, to_bind R1 h1 fun yd l2 yv H2 Hf2 R2 s2 r2 h2 => ?_⟩
            cases e4 : ownL (l2.sl[i]?) with
            | none =>
              rw [e4] at h2
              exact h2.elim
            | some ds2 =>
              rw [e4] at h2
              cases e5 : g y yd with
              | none =>
                rw [e5] at h2
                exact h2.elim
              | some z =>
                rw [e5] at h2
                have h2 : wpF c W D Hf2 (match atN ds2.length n with
                  | some k => .nx (l2.put i (.own (.lst (ds2.set k z))))
                  | none => .bad) := h2
                cases e6 : atN ds2.length n with
                | none =>
                  rw [e6] at h2
                  exact h2.elim
                | some k =>
                  rw [e6] at h2
                  refine ok Hf2 H2 σ l2 y yd z w yv _ R2 (q2.mono s2) r2 e5 fun zv H' Hf' R' s' rz => ?_
                  obtain ⟨a2, o2, ea2, ha2, rc2, _⟩ := R'.own (ownL_eq e4)
                  rw [ea] at ea2
                  cases ea2
                  obtain ⟨vs2, rfl, rv2⟩ := rc2
                  refine ⟨a, vs2, n, k, rfl, r1, ha2, by rw [← rv2.length]; exact atN_ix e6, ?_⟩
                  exact h2 σ _ Hf' (R'.write (ownL_eq e4) ea ⟨_, rfl, rv2.set rz k⟩) s'
        | _ => exact h1.elim⟩
end
end Dx

/-! Dx.Enu: enumerate(tuple), walked. -/
namespace DxE
open PySem PySem.Spec PyProof.Rows
section
variable {P : Program} {w : World} {A : Around} {E : Value → Shared → Prop} {s : Shared} {q T : Addr} {j : Nat} {xs : Array Value}
theorem draw_item {x : Value} {Q : Value → Shared → Prop} (I : s.heap.IsTupleIter q T j) (hT : s.heap.IsTuple T xs) (e : xs[j]? = some x) (hQ : ∀ h', h'.IsTupleIter q T (j + 1) → Heap.SameBut q s.heap h' → Q x { s with heap := h' }) :
    wpAny (model P w) A (Builtin.SmallTypes.nextOf (.ref q)) Q E s := by
  obtain ⟨o, eo, ec, ed⟩ := id I
  obtain ⟨oT, eT, _, nT, dT⟩ := hT
  unfold Builtin.SmallTypes.nextOf
  refine wpAny_bind (wpAny_callSpecial?_slot (name := Str.ofString "__next__") I.typeIs F.slot_tuple_iterator_next (wpAny_call_entry F.slot_tuple_iterator_next I.typeIs F.entry_tuple_iterator_next ?_ (F.args_tuple_iterator_next_1 _)))
  show wpAny _ _ (field (.ref q) 0 >>= _) _ _ s
  refine wpAny_bind (wpAny_field eo ed (x := .ref T) rfl ?_)
  show wpAny _ _ (if (Value.ref T == Value.none) = true then _ else _) _ _ s
  rw [if_neg (show ¬ ((Value.ref T == Value.none) = true) from Bool.false_ne_true)]
  show wpAny _ _ (field (.ref q) 1 >>= _) _ _ s
  refine wpAny_bind (wpAny_field eo ed (x := .int j 0) rfl ?_)
  show wpAny _ _ (seqItems? (.ref T) >>= _) _ _ s
  refine wpAny_bind (wpAny_seqItems eT dT ?_)
  simp only [Int.toNat_natCast, e]
  refine wpAny_bind (wpAny_setField eo ed (by simp) (wpAny_pure ⟨x, rfl, wpAny_pure (hQ _ ⟨_, Heap.get?_update_self _ eo (Obj.isFreed_of_fields (Obj.data_mapFields ed _)), (Obj.cls_mapFields ..).trans ec, ?_⟩ (Heap.SameBut.update ..))⟩))
  rw [Obj.data_mapFields ed]
  simp [rawInt]
theorem draw_end {Q : Value → Shared → Prop} (hA : A.handled = none) (I : s.heap.IsTupleIter q T j) (hT : s.heap.IsTuple T xs) (e : xs[j]? = none)
    (hE : ∀ h' z, Heap.ExtBut q s.heap h' → (∃ o, h'.get? z = some o ∧ o.cls = .type "StopIteration") → E (.ref z) { s with heap := h' }) : wpAny (model P w) A (Builtin.SmallTypes.nextOf (.ref q)) Q E s := by
  obtain ⟨o, eo, ec, ed⟩ := id I
  obtain ⟨oT, eT, _, nT, dT⟩ := hT
  unfold Builtin.SmallTypes.nextOf
  refine wpAny_bind (wpAny_callSpecial?_slot (name := Str.ofString "__next__") I.typeIs F.slot_tuple_iterator_next (wpAny_call_entry F.slot_tuple_iterator_next I.typeIs F.entry_tuple_iterator_next ?_ (F.args_tuple_iterator_next_1 _)))
  show wpAny _ _ (field (.ref q) 0 >>= _) _ _ s
  refine wpAny_bind (wpAny_field eo ed (x := .ref T) rfl ?_)
  show wpAny _ _ (if (Value.ref T == Value.none) = true then _ else _) _ _ s
  rw [if_neg (show ¬ ((Value.ref T == Value.none) = true) from Bool.false_ne_true)]
  show wpAny _ _ (field (.ref q) 1 >>= _) _ _ s
  refine wpAny_bind (wpAny_field eo ed (x := .int j 0) rfl ?_)
  show wpAny _ _ (seqItems? (.ref T) >>= _) _ _ s
  refine wpAny_bind (wpAny_seqItems eT dT ?_)
  simp only [Int.toNat_natCast, e]
  refine wpAny_bind (wpAny_rule (wpAny_bind (wpAny_setField eo ed (by simp) ?_)))
  show wpAny _ _ (newExc (.type "StopIteration") [] >>= _) _ _ _
  refine wpAny_bind ?_
  simp only [newExc, newTuple]
  refine wpAny_bind (wpAny_newObj_type ?_ (by size_fits)); refine wpAny_bind (m := firstArgMember _ _) (wpAny_of_eq (a := Value.none) (by first | rfl | (simp only [firstArgMember]; rfl)) ?_)
  refine wpAny_newObj_type ?_ (by size_fits); simp only [raiseNew]
  refine wpAny_bind (wpAny_handled ?_); first | rw [show A.in1.handled = none from hA] | rw [hA]
  exact wpAny_bind (wpAny_pure (wpAny_throw (hE _ _ (((Heap.SameBut.update ..).extBut.push _).push _) ⟨_, Heap.get?_push_size _ rfl, rfl⟩)))
end
/-- a tuple's drawer -/
theorem tupDraws {P : Program} {w : World} {A : Around} (hA : A.handled = none) (q T : Addr) (ne : T ≠ q) (xs : Array Value) : Draws P w A q [q, T] xs.size (fun i v => xs[i]? = some v) (fun i h => h.IsTupleIter q T i ∧ h.IsTuple T xs) where
  live := fun _ _ ⟨⟨o, e, _⟩, _⟩ => ⟨o, e⟩
  frame := fun _ _ _ ⟨a, o, e, r⟩ k => ⟨a.at fun o e => k q (by simp) o e, o, k T (by simp) o e, r⟩
  item := fun i s Q E hi st hQ => draw_item st.1 st.2 (x := xs[i]) (by simp [hi]) fun h' a b => hQ _ h' s.toks (by simp [hi]) ⟨a, st.2.extBut b.extBut ne⟩ b
  done := fun s Q E st hE => draw_end hA st.1 st.2 (by simp) hE
abbrev itO (T : Addr) : Obj := { cls := .type "tuple_iterator", data := .fields #[.ref T, .int 0 0] }
abbrev enO (q : Addr) : Obj := { cls := .type "enumerate", data := .fields #[.none, .bool false, .ref q, rawInt 0, .none, .none] }
theorem new_enum (T : Addr) (xs : Array Value) (n : Nat) (dct : Option Addr) (sl : Array (Option Value)) :
    Meets (Builtin.«enumerate.__new__» ⟨[.type "enumerate", .ref T], []⟩) (fun _ R s => s.heap.get? T = some { cls := .type "tuple", dict := dct, data := .seq xs n, slots := sl } ∧
      R (.ok (.ret (.ref (s.heap.push (itO T)).objs.size))) { s with heap := (s.heap.push (itO T)).push (enO s.heap.objs.size) }) :=
  .of_wp fun prog w A R s h => by
    obtain ⟨hp, g, d, tk, os⟩ := s
    obtain ⟨eT, h⟩ := h
    have hsub := sub_enumerate
    have IT : Heap.IsTuple (Shared.heap ⟨hp, g, d, tk, os⟩) T xs := ⟨_, eT, rfl, n, rfl⟩
    wp_walk using AutoSeq1.wpAny_loadPart' eT
    refine wpAny_stack_any fun st => wpAny_pure ?_
    split
    · rename_i c _ _ _ _ _
      cases (c == Value.type "enumerate")
      · wp_walk using AutoSeq1.wpAny_loadPart' eT, wpAny_pyIter_tuple IT
        exact ⟨_, rfl, h⟩
      · wp_walk using AutoSeq1.wpAny_loadPart' eT, wpAny_pyIter_tuple IT
        exact ⟨_, rfl, h⟩
    · wp_walk using AutoSeq1.wpAny_loadPart' eT, wpAny_pyIter_tuple IT
      exact ⟨_, rfl, h⟩
theorem call_enum {P : Program} {w : World} {A : Around} {E Q : Value → Shared → Prop} {s : Shared} {T : Addr} {xs : Array Value} (hT : s.heap.IsTuple T xs)
    (h : ∀ h', IsEnum h' (s.heap.objs.size + 1) s.heap.objs.size 0 .none → h'.IsTupleIter s.heap.objs.size T 0 → h'.objs.size = s.heap.objs.size + 2 → (∀ b o, s.heap.get? b = some o → h'.get? b = some o) → Q (.ref (s.heap.objs.size + 1)) { s with heap := h' }) :
    wpAny (model P w) A (call (.type "enumerate") [.ref T]) Q E s := by
  obtain ⟨⟨c, dct, dt, sl⟩, eT, ec, n, ed⟩ := hT
  replace ec : c = .type "tuple" := ec
  replace ed : dt = .seq xs n := ed
  subst ec ed
  refine callType_new F.called_enumerate (by decide) (F.typeCall_enumerate_1 _) (F.newCall_enumerate_1 _) (fun obj => F.args_object_init_2 obj _) F.entry_enumerate_new (new_enum T xs n dct sl) ⟨eT, ?_⟩
  have hz : (s.heap.push (itO T)).objs.size = s.heap.objs.size + 1 := Heap.size_push ..
  show _ ∧ _
  rw [hz]
  have he : IsEnum ((s.heap.push (itO T)).push (enO s.heap.objs.size)) (s.heap.objs.size + 1) s.heap.objs.size 0 .none := by
    have z := Heap.get?_push_size (s.heap.push (itO T)) (o := enO s.heap.objs.size) rfl
    rw [hz] at z
    exact z
  exact ⟨⟨_, he, rfl⟩, h _ he ⟨_, Heap.get?_push_of_some _ (Heap.get?_push_size _ rfl), rfl, rfl⟩ (by rw [Heap.size_push, hz]) fun b o x => Heap.get?_push_of_some _ (Heap.get?_push_of_some _ x)⟩
/-! ### next(g, d) of a generator -/
theorem call_next2 {P : Program} {w : World} {A : Around} {E Q : Value → Shared → Prop} {s : Shared} {g : Addr} {n : Nat} {d : Value} (hg : s.heap.IsGen g n) (h : wpAny (model P w) A.in1 (pyNext (.ref g)) (fun r s' => Q (r.getD d) s') E s) :
    wpAny (model P w) A (call (.builtin "next") [.ref g, d]) Q E s := by
  refine PySem.Calls.call_function_entry (by decide +kernel) (by decide +kernel) PySem.W.kdk_entry_next (PySem.W.kdk_args_next2 _ _) ?_
  unfold Builtin.«next»
  refine wpAny_bind (m := someArgs "next" 1 2 _) (wpAny_of_eq (a := [Value.ref g, d]) (by first | rfl | kernel_rfl!) ?_)
  dsimp only
  refine wpAny_bind (wpAny_specialOf (name := Str.ofString "__next__") hg.typeIs slot_gen_next.lookup ?_)
  refine wpAny_ite_split (fun z => absurd z (by decide)) fun _ => ?_
  exact wpAny_bind (wpAny_mono h (fun r s' q => wpAny_pure ⟨_, rfl, q⟩) fun _ _ z => z)
/-! ### the generator (a for a, b in enumerate(t) if b != 0) -/
/-- its own scope -/
structure GenS2 (env : Env) (scope : Scope) (a b : PySem.Str) : Prop where
  kind : scope.kind = .function
  co : scope.isCoroutine = false
  cell : ∀ y ∈ scope.names, y.2 ≠ .cell
  dot : scope.names.lookup (".0" : PySem.Str) = some NameKind.local
  la : scope.names.lookup a = some .local
  lb : scope.names.lookup b = some .local
  ne : a ≠ b
  free : ∀ y ∈ scope.names, y.2 = .free → ∃ c, env.cells.lookup y.1 = some c
/-- where an entry is not 0 -/
def nz (ns : List Int) (i : Nat) : Bool := match ns[i]? with
  | some n => n != 0
  | none => false
section
variable {X : L2.Cx} {pins : List (Addr × Obj)} {σ : L2.St} {H H1 : L2.Hp} {s s1 : Shared}
/-- the generator at g is ready to go -/
def Rdy (X : L2.Cx) (pins : List (Addr × Obj)) (σ : L2.St) (H1 : L2.Hp) (P : Addr) (ns : List Int) (g : Addr) (s5 : Shared) : Prop :=
  ∃ (n : Nat) (fp wr : List Addr) (G : Array GenState → Array GenState → Prop) (St : Nat → Shared → Prop), s5.heap.IsGen g n ∧
    WalksS X.prog X.w X.A.in1 g fp wr G (passing (nz ns) ns.length 0).length (fun j y => ∃ i, (passing (nz ns) ns.length 0)[j]? = some i ∧ ∃ t, y = .int (i : Int) t) St ∧ St 0 s5 ∧
    ∀ s', Moved wr G s5 s' → ∃ H2, GxR.Tabbed P H1 H2 ∧ L2.Inv X pins σ H2 s'
theorem gen_enum {c P : Addr} {xa xb : PySem.Str} {it : Expr} {te : L2.TE} {p1 p2 p3 p4 p5 p6 pa pb pt gpos : Pos} {j0 kt k : Nat} {scope : Scope} {Q' : Value → Shared → Prop} {R : List Int → L2.Hp → Prop}
    (hr : L2.Room k X.A) (TB : GxR.TabB X.base X.mg c P) (hcode : X.env.code = .ref c) (S : GenS2 X.env scope xa xb) (hi : L2.PE X it te) (hge : L2.Gl X "enumerate") (hme : X.mg "enumerate" = none) (hda : (xa == ("__debug__" : PySem.Str)) = false) (hdb : (xb == ("__debug__" : PySem.Str)) = false)
    (hst0 : starEach [it] X.env = [(false, eval it X.env)])
    (hs : ∀ v, genFold (.Call (.Name "enumerate" p2) [it] [] p3) X.env v = pure v) (I : L2.Inv X pins σ H s) (h : te σ H fun v H1 => ∃ (T : Addr) (ns : List Int), v = .ref T ∧ L2.SqT X.K H1 T (ns.map L2.V.int) ∧ GxR.TabG H1 P ∧ R ns H1)
    (hQ : ∀ ns H1 g s5, R ns H1 → Rdy X pins σ H1 P ns g s5 → Q' (.ref g) s5) :
    wpAny (model X.prog X.w) X.A (eval (.GeneratorExp (.Name xa p1) [⟨.Tuple [.Name xa pa, .Name xb pb] kt pt, .Call (.Name "enumerate" p2) [it] [] p3, [.Compare (.Name xb p4) [.NotEq] [.Constant (.int 0) j0 p5] p6], 0⟩] scope gpos) X.env) Q' X.xe s := by
  refine wpAny_GeneratorExp_walksQT hr.hd S.co (L2.closure_ok S.free) S.cell S.dot S.la S.lb S.ne S.kind (by have := hr.dp; omega) ?_ hs
  refine PyProof.Rows.Call_ (L2.ld_blt I hge hme boot_enumerate (PyProof.Rows.callWith_type1 (L2.thn ((L2.pa_cons hi L2.pa_nil (by rw [hst0]; rfl)).run p3 pins s σ H (fun vs H1 => match vs with | [v] => (∃ (T : Addr) (ns : List Int), v = .ref T ∧ L2.SqT X.K H1 T (ns.map L2.V.int) ∧ GxR.TabG H1 P ∧ R ns H1) | _ => False) I h) fun us s1 ⟨vs, H1, I1, r1, q1⟩ => ?_) hst0 rfl))
  cases r1 with
  | nil => exact q1.elim
  | @cons v u vs2 us2 ru rest =>
  cases rest with
  | cons _ _ => exact q1.elim
  | nil =>
  obtain ⟨T, ns, rfl, hT, ⟨ps, hP, ht⟩, hR⟩ := (show ∃ (T : Addr) (ns : List Int), v = .ref T ∧ L2.SqT X.K H1 T (ns.map L2.V.int) ∧ GxR.TabG H1 P ∧ R ns H1 from q1)
  cases ru
  obtain ⟨its, rv, tT, hz⟩ := I1.tuple hT
  have hlen : its.length = ns.length := by rw [← rv.length, List.length_map]
  refine call_enum tT fun h' he hit hsz2 k2 => wpAny_pyIter_enum he ?_
  have Tlt : T < s1.heap.objs.size := tT.lt
  have hPs : s1.heap.get? P = some { cls := .none, data := .fields ps } := I1.hok P _ hP
  have Plt : P < s1.heap.objs.size := Heap.lt_size hPs
  have hP2 : h'.get? P = some { cls := .none, data := .fields ps } := k2 _ _ hPs
  have cd : PySem.W.CodeHd h' c P := TB.code.keeps fun b u e => k2 _ _ (I1.bk b u e)
  have lim2 : h'.NoLimit := I1.nolimit.keeps k2
  have tT2 : h'.IsTuple T its.toArray := let ⟨o, e, r⟩ := tT; ⟨o, k2 _ _ e, r⟩
  have hsize : its.toArray.size = ns.length := by rw [List.size_toArray, hlen]
  have W := fun (A' : Around) (hA : A'.handled = none) => (WalksT.enumerateD (A := A') (tupDraws (P := X.prog) (w := X.w) (A := A'.in1) hA s1.heap.objs.size T (Nat.ne_of_lt Tlt) its.toArray) (s1.heap.objs.size + 1) (Nat.succ_ne_self _)
    (fun z => by
      rcases List.mem_cons.mp z with z | z
      · exact Nat.succ_ne_self _ z
      · have z : s1.heap.objs.size + 1 = T := List.mem_singleton.mp z
        exact Nat.lt_irrefl _ (Nat.lt_of_succ_lt (show s1.heap.objs.size + 1 < s1.heap.objs.size from z ▸ Tlt))) List.mem_cons_self).toU
  have hcP : cStatics ≠ P := fun e => by
    obtain ⟨_, hns, _⟩ := I1.nolimit
    obtain ⟨o2, es, ep, ho, hd, _⟩ := hns
    rw [e, hPs] at ho
    cases ho
    cases hd
  have hcl : cStatics < s1.heap.objs.size := let ⟨_, hns, _⟩ := I1.nolimit; hns.lt
  have cont : ∀ (code : Value) (h3 : Heap) (tk : Nat) (ps' : Array Value), Heap.ExtBut P h' h3 → h'.objs.size ≤ h3.objs.size → h3.get? P = some { cls := .none, data := .fields ps' } → (∃ more, ps' = ps ++ more) → TriplesOk ps'.toList →
      wpAny (model X.prog X.w) X.A (builtinsFor X.env.globals X.env.builtins) (fun bi s₄ =>
        ∃ Ie fp wr n₀ Pt St₀ Mid pz F, Value.ref (s1.heap.objs.size + 1) = .ref Ie ∧ (∀ A' : Around, A'.handled = none → WalksU X.prog X.w A' Ie fp wr n₀ Pt St₀ Mid) ∧ (∀ i vals, Pt i vals → ∃ va vb, vals = #[va, vb]) ∧ St₀ 0 s₄.heap ∧ (∀ b ∈ fp, b < s₄.heap.objs.size) ∧ s₄.heap.NoLimit ∧ cStatics ∉ wr ∧
          (∀ href : Heap, (∀ b o, s₄.heap.get? b = some o → href.get? b = some o) →
            QuietGenT X.prog X.w (genEnv scope (L2.cloFrom X.env.cells scope.names []) s₄.heap.objs.size code bi X.env) xa xb [.Compare (.Name xb p4) [.NotEq] [.Constant (.int 0) j0 p5] p6] (.Name xa p1) (List.range s₄.heap.objs.size) wr Pt pz F href) ∧
          (∀ a h₅ tk gs, gs.bare = true → s₄.heap.objs.size < a → h₅.objs.size = a + 1 → (∀ b o, s₄.heap.get? b = some o → h₅.get? b = some o) →
            WalksS X.prog X.w X.A.in4 a (a :: s₄.heap.objs.size :: List.range s₄.heap.objs.size) (s₄.heap.objs.size :: wr) (GenOnlyQ s₄.gens.size) (passing pz n₀ 0).length
              (fun j y => ∃ i, (passing pz n₀ 0)[j]? = some i ∧ F i y) (GenAt X.prog X.w X.A.in4 a s₄.gens.size s₄.heap.objs.size (List.range s₄.heap.objs.size) wr pz n₀ F) →
            GenAt X.prog X.w X.A.in4 a s₄.gens.size s₄.heap.objs.size (List.range s₄.heap.objs.size) wr pz n₀ F 0 { s₄ with gens := s₄.gens.push gs, toks := tk, heap := h₅ } →
            Q' (.ref a) { s₄ with gens := s₄.gens.push gs, toks := tk, heap := h₅ })) X.xe { s1 with heap := h3, toks := tk } := by
    intro code h3 tk ps' hx hsz hP3 hmore ht3
    obtain ⟨bm, ob, e1, e2, e3, e4, e5, e6, e7, e8⟩ := TB.bm
    have k3 : ∀ b u, b ≠ P → s1.heap.get? b = some u → h3.get? b = some u := fun b u hb e => hx b u hb (k2 _ _ e)
    have fresh : ∀ b, s1.heap.objs.size ≤ b → b ≠ P := fun b hb z => Nat.lt_irrefl _ (Nat.lt_of_lt_of_le Plt (z ▸ hb))
    refine wpAny_builtinsFor (m := X.mg) (by rw [I1.ok.glob]; exact (((I1.mod.glob.keeps I1.bk).keeps k2)).extBut hx TB.gP) e1 e2 (k3 _ _ e4 (I1.bk _ _ e5)) e6 e7 e8 ?_
    refine ⟨s1.heap.objs.size + 1, _, _, its.toArray.size, _, _, _, nz ns, (fun i y => ∃ t, y = .int (i : Int) t), rfl, W, ?_, ?_, ?_, lim2.extBut hx hcP, ?_, ?_, ?_⟩
    · intro i vals ⟨t, x, _, e⟩
      exact ⟨_, _, e⟩
    · refine ⟨⟨.none, hx _ _ (fresh _ (Nat.le_succ _)) he⟩, ?_, ?_⟩
      · obtain ⟨o, e, r⟩ := hit
        exact ⟨o, hx _ _ (fresh _ (Nat.le_refl _)) e, r⟩
      · obtain ⟨o, e, r⟩ := tT
        refine ⟨o, k3 _ _ (fun z => ?_) e, r⟩
        rw [z, hPs] at e
        cases e
        cases r.1
    · intro b hb
      show b < h3.objs.size
      have sz : (s1.heap.objs.size + 2 : Nat) ≤ h3.objs.size := hsz2 ▸ hsz
      have y : (T : Nat) < s1.heap.objs.size := Tlt
      simp only [List.mem_cons, List.not_mem_nil, or_false] at hb
      rcases hb with rfl | rfl | rfl
      · exact sz
      · exact Nat.lt_of_succ_lt sz
      · exact Nat.lt_trans y (Nat.lt_of_succ_lt sz)
    · intro z
      simp only [List.mem_cons, List.not_mem_nil, or_false] at z
      rcases z with z | z
      · exact Nat.ne_of_lt (Nat.lt_succ_of_lt hcl) z
      · exact Nat.ne_of_lt hcl z
    · intro href hhref
      refine ⟨fun A' E' i va vb s₂ m₂ hA hPv hn hma hmb hk => ?_, fun A' E' i va vb s₂ m₂ hA hPv hp hn hma hmb hk => ?_⟩
      · obtain ⟨t, x, hxi, e⟩ := hPv
        obtain ⟨z1, z2⟩ : va = .int i t ∧ vb = x := by simpa using congrArg Array.toList e
        subst z1 z2
        have hi : i < ns.length := by
          rw [← hsize]
          exact (Array.getElem?_eq_some_iff.mp hxi).1
        have hv : (ns.map L2.V.int)[i]? = some (.int ns[i]) := by rw [List.getElem?_map, List.getElem?_eq_getElem hi]; rfl
        obtain ⟨u, hu, ru⟩ := rv.get hv
        have hxi2 : its[i]? = some vb := by simpa using hxi
        rw [hxi2] at hu
        cases hu
        obtain ⟨t2, rfl⟩ := ru
        have ez : nz ns i = (ns[i] != 0) := by
          unfold nz
          rw [List.getElem?_eq_getElem hi]
        simp only [List.forIn_cons, List.forIn_nil, if_true]
        refine wpAny_bind (wpAny_bind (wpAny_isTrue_Compare1 ?_))
        refine wpAny_Name (wpAny_loadName_local S.kind S.lb hn hmb ?_) hdb
        refine wpAny_Constant_int ?_
        refine PySem.P.ne_int (wpAny_truthy_bool ?_)
        exact wpAny_pure (wpAny_pure ⟨ez.symm, GxR.keeps_tok _ _⟩)
      · obtain ⟨t, x, hxi, e⟩ := hPv
        obtain ⟨z1, z2⟩ : va = .int i t ∧ vb = x := by simpa using congrArg Array.toList e
        subst z1 z2
        exact wpAny_Name (wpAny_loadName_local S.kind S.la hn hma ⟨⟨t, rfl⟩, GxR.keeps_refl _⟩) hda
    · intro g h5 tk5 gs hgb hag hsz5 hk5 W5 hat
      rw [hsize] at W5 hat
      refine hQ ns H1 g _ hR ⟨_, _, _, _, _, hat.1, W5.in4_1, hat, fun s' hm => ?_⟩
      obtain ⟨more, em⟩ := hmore
      have sz : (s1.heap.objs.size + 2 : Nat) ≤ h3.objs.size := hsz2 ▸ hsz
      have nwr : ∀ b u, s1.heap.get? b = some u → b ∉ h3.objs.size :: [s1.heap.objs.size + 1, s1.heap.objs.size] := fun b u e hb => by
        have hl := Heap.lt_size e
        simp only [List.mem_cons, List.not_mem_nil, or_false] at hb
        rcases hb with rfl | rfl | rfl
        · exact Nat.lt_irrefl _ (Nat.lt_trans hl (Nat.lt_of_succ_lt sz))
        · exact Nat.lt_irrefl _ (Nat.lt_of_succ_lt hl)
        · exact Nat.lt_irrefl _ hl
      have J := GxR.inv_tab (more := more) (h' := s'.heap) (g' := s'.gens) (d' := s'.drawn) (t' := s'.toks) I1 hP (fun b u hb e => hm.heap b u (nwr b u e) (hk5 b u (k3 b u hb e)))
        (by rw [← em]; exact hm.heap P _ (nwr P _ hPs) (hk5 P _ hP3)) (AllBare.movedS (I1.bare.push hgb) hm)
      rw [GxR.sh_eta s1 s' hm.os] at J
      exact ⟨L2.upd H1 P (.tbl (ps ++ more)), ⟨⟨ps ++ more, L2.upd_same, by rw [← em]; exact ht3⟩, fun b hb => L2.upd_ne hb⟩, J⟩
  refine ⟨lim2, ?_⟩
  cases hf : codeAmong gpos ps.toList with
  | none =>
    refine wpAny_genexprCodeX hcode (cd.code hP2 ht) (cd.tab hP2) hf fun c' h6 tk hx hge hlt hco' _ htab' _ => ?_
    obtain ⟨o1, vs, f1, tf, fl, tg, inF, tx, tt, op, _, _, _, _, _, _, _, _, _, htr, _⟩ := hco'
    exact cont _ h6 tk _ hx (Nat.le_trans hge (Nat.le_of_lt hlt)) htab'.2 ⟨_, rfl⟩ htr
  | some cv =>
    refine wpAny_genexprCode_hit hcode (cd.code hP2 ht) hf ?_
    exact cont cv h' s1.toks ps (Heap.ExtBut.refl _ _) (Nat.le_refl _) hP2 ⟨#[], by simp⟩ ht
/-- the first place, or None -/
def fstI (ns : List Int) : Option Nat := (passing (nz ns) ns.length 0)[0]?
def fstV (ns : List Int) : L2.V := match fstI ns with
  | some i => .int (i : Int)
  | none => .non
def tNx (K : PySem.W.Frag) (P : Addr) (te : L2.TE) : L2.TE := fun σ H Q => te σ H fun v H1 => ∃ (T : Addr) (ns : List Int), v = .ref T ∧ L2.SqT K H1 T (ns.map L2.V.int) ∧ GxR.TabG H1 P ∧ ∀ H2, GxR.Tabbed P H1 H2 → Q (fstV ns) H2
theorem boot_nx : bootBuiltins (Str.ofString "next") = some (.builtin "next") := by kernel_rfl
theorem pe_next {c P : Addr} {xa xb : PySem.Str} {it : Expr} {te : L2.TE} {p p1 p2 p3 p4 p5 p6 p7 pa pb pt gpos pos : Pos} {j0 j7 kt k : Nat} {scope : Scope}
    (hr : L2.Room k X.A) (TB : GxR.TabB X.base X.mg c P) (hcode : X.env.code = .ref c) (S : GenS2 X.env scope xa xb) (hi : L2.PE X it te) (hg : L2.Gl X "next") (hm : X.mg "next" = none) (hge : L2.Gl X "enumerate") (hme : X.mg "enumerate" = none)
    (hda : (xa == ("__debug__" : PySem.Str)) = false) (hdb : (xb == ("__debug__" : PySem.Str)) = false) (hst0 : starEach [it] X.env = [(false, eval it X.env)])
    (hs : ∀ v, genFold (.Call (.Name "enumerate" p2) [it] [] p3) X.env v = pure v)
    (he : starEach [.GeneratorExp (.Name xa p1) [⟨.Tuple [.Name xa pa, .Name xb pb] kt pt, .Call (.Name "enumerate" p2) [it] [] p3, [.Compare (.Name xb p4) [.NotEq] [.Constant (.int 0) j0 p5] p6], 0⟩] scope gpos, .Constant .none j7 p7] X.env =
      (false, eval (.GeneratorExp (.Name xa p1) [⟨.Tuple [.Name xa pa, .Name xb pb] kt pt, .Call (.Name "enumerate" p2) [it] [] p3, [.Compare (.Name xb p4) [.NotEq] [.Constant (.int 0) j0 p5] p6], 0⟩] scope gpos) X.env) :: starEach [.Constant .none j7 p7] X.env := by rfl)
    (he2 : starEach [.Constant .none j7 p7] X.env = [(false, eval (.Constant .none j7 p7) X.env)] := by rfl) :
    L2.PE X (.Call (.Name "next" p) [.GeneratorExp (.Name xa p1) [⟨.Tuple [.Name xa pa, .Name xb pb] kt pt, .Call (.Name "enumerate" p2) [it] [] p3, [.Compare (.Name xb p4) [.NotEq] [.Constant (.int 0) j0 p5] p6], 0⟩] scope gpos, .Constant .none j7 p7] [] pos) (tNx X.K P te) := by
  refine ⟨fun pins s σ H Q I h => ?_⟩
  refine wpAny_Call_Name_kw (L2.ld_blt I hg hm boot_nx ?_)
  refine PyProof.Rows.callWith_builtin1 ?_ he (by rw [he2]; rfl)
  rw [he, he2]
  refine Calls.spliced_cons (gen_enum (R := fun ns H1 => ∀ H2, GxR.Tabbed P H1 H2 → Q (fstV ns) H2) hr TB hcode S hi hge hme hda hdb hst0 hs I h fun ns H1 g s5 hR hG => ?_)
  obtain ⟨n, fp, wr, G, St, hgen, W, hst, hI⟩ := hG
  show wpAny _ _ (spliced [(false, eval (.Constant .none j7 p7) X.env)]) _ _ s5
  refine Calls.spliced_cons (wpAny_Constant_none (Calls.spliced_nil ?_))
  refine call_next2 hgen ?_
  cases e : (passing (nz ns) ns.length 0)[0]? with
  | none =>
    have len : (passing (nz ns) ns.length 0).length = 0 := Nat.le_zero.mp (List.getElem?_eq_none_iff.mp e)
    refine W.done s5 _ _ (by rw [len]; exact hst) fun s' hm => ?_
    obtain ⟨H2, hT, J⟩ := hI s' hm
    refine ⟨.non, H2, J, rfl, ?_⟩
    have q := hR H2 hT
    unfold fstV fstI at q
    rw [e] at q
    exact q
  | some i =>
    have len : 0 < (passing (nz ns) ns.length 0).length := (List.getElem?_eq_some_iff.mp e).1
    refine W.item 0 s5 _ _ len hst fun v s' hP _ hm => ?_
    obtain ⟨i2, e2, t, rfl⟩ := hP
    rw [e] at e2
    cases e2
    obtain ⟨H2, hT, J⟩ := hI s' hm
    refine ⟨.int (i : Int), H2, J, ⟨t, rfl⟩, ?_⟩
    have q := hR H2 hT
    unfold fstV fstI at q
    rw [e] at q
    exact q
end
end DxE
namespace Dx
open PySem PySem.Spec PyProof.Rows L2
section
variable {c : Ac} {Hf H : Hp} {σ : L2.St} {l : LSt}
/-- a table of generators' code is written -/
theorem REnv.tblPutG (R : REnv c Hf σ H l) {P : Addr} {ps ps' : Array Value} (hq : c.tg P = true) (hq2 : c.tq P = none) (hP : H P = some (.tbl ps)) (ht : TriplesOk ps'.toList) : REnv c Hf σ (upd H P (.tbl ps')) l := by
  have hT : isT c.toCn P := .inr hq
  have nd : ∀ {a : Addr}, ¬ isD c.toCn l.g c.ad a → a ≠ P := fun {a} h z => h (.inr (.inr (z ▸ hT)))
  have nf : Hf P = none := (R.dice.tb.gen P hq).1
  have nt : ∀ {a : Addr} {o : HO}, H a = some o → (∀ ps, o ≠ .tbl ps) → a ≠ P := fun {a o} e h z => by
    rw [z, hP] at e
    exact h ps (Option.some.inj e).symm
  refine ⟨R.len, fun j s hj => ?_, R.dis, fun b u hb => ?_, R.base, fun b u hb => ?_, ⟨fun x y z e => ?_, fun n fs e => ?_, ⟨fun P2 q2 h2 => ?_, fun P2 h2 => ?_⟩⟩, R.hgs⟩
  · obtain ⟨x, e, r⟩ := R.slot j s hj
    refine ⟨x, e, ?_⟩
    cases s with
    | un => exact True.intro
    | v d => exact r
    | slf => exact r
    | fn => exact r
    | er _ _ => exact r
    | own co =>
      obtain ⟨a, o, q1, h, r, n, n0, d⟩ := r
      exact ⟨a, o, q1, by rw [upd_ne (nd d)]; exact h, r, n, n0, d⟩
  · rw [upd_ne (fun z => by rw [z, nf] at hb; cases hb)]
    exact R.sub b u hb
  · obtain ⟨h1, h2, h3⟩ := R.frame b u hb
    exact ⟨by rw [upd_ne (nd h3)]; exact h1, h2, h3⟩
  · obtain ⟨h1, h2⟩ := R.dice.dc x y z e
    exact ⟨h1, by rw [upd_ne (nt h2 fun ps z => by cases z)]; exact h2⟩
  · obtain ⟨q1, q2, q3, q4, us, q5, q6⟩ := R.dice.obj n fs e
    have n2 : c.ad.od ≠ P := by
      rcases q4 with h | h
      · exact nt h fun ps z => by cases z
      · exact nt h fun ps z => by cases z
    have n1 : c.ad.oa ≠ P := by
      rcases q5 with ⟨h, _⟩ | ⟨h, _⟩
      · exact nt h fun ps z => by cases z
      · exact nt h fun ps z => by unfold SlX.SlO at z; cases z
    exact ⟨q1, q2, q3, by rw [upd_ne n2]; exact q4, us, slt_upd q5 n1 n2, q6⟩
  · obtain ⟨h1, h3⟩ := R.dice.tb.lam P2 q2 h2
    exact ⟨h1, h3.keep (Same.refl _) (upd_ne (fun z => by rw [z, hq2] at h2; cases h2))⟩
  · obtain ⟨h1, ps2, h3, h4⟩ := R.dice.tb.gen P2 h2
    by_cases e : P2 = P
    · subst e
      exact ⟨h1, ps', upd_same, ht⟩
    · exact ⟨h1, ps2, by rw [upd_ne e]; exact h3, h4⟩
end
/-- next((a for a, b in enumerate(t) if b != 0), None) -/
def nextD : D → Option D
  | .tup ds => (intsD ds).map fun ns => match DxE.fstI ns with
    | some i => .int (i : Int)
    | none => .non
  | _ => none
section
variable {X : Cx} {c : Ac} {W : WX} {cn : Cn} {k : Nat} {cc P : Addr} {xa xb : Str} {it : Expr} {fe : LSt → Res D} {p p1 p2 p3 p4 p5 p6 p7 pa pb pt gpos pos : Pos} {j0 j7 kt : Nat} {scope : Scope}
theorem de_next (Z : Ctx X c W cn k) (TB : GxR.TabB X.base X.mg cc P) (hcode : X.env.code = .ref cc) (hq : cn.tg P = true) (hq2 : cn.tq P = none) (S : DxE.GenS2 X.env scope xa xb) (hi : DE X c W it fe) (hm : X.mg "next" = none) (hme : X.mg "enumerate" = none)
    (hg : Gl X "next" := by rfl) (hge : Gl X "enumerate" := by rfl) (hda : (xa == ("__debug__" : Str)) = false := by decide) (hdb : (xb == ("__debug__" : Str)) = false := by decide) (hst0 : starEach [it] X.env = [(false, eval it X.env)] := by rfl)
    (hs : ∀ v, genFold (.Call (.Name "enumerate" p2) [it] [] p3) X.env v = pure v := by intros; rfl)
    (he : starEach [.GeneratorExp (.Name xa p1) [⟨.Tuple [.Name xa pa, .Name xb pb] kt pt, .Call (.Name "enumerate" p2) [it] [] p3, [.Compare (.Name xb p4) [.NotEq] [.Constant (.int 0) j0 p5] p6], 0⟩] scope gpos, .Constant .none j7 p7] X.env =
      (false, eval (.GeneratorExp (.Name xa p1) [⟨.Tuple [.Name xa pa, .Name xb pb] kt pt, .Call (.Name "enumerate" p2) [it] [] p3, [.Compare (.Name xb p4) [.NotEq] [.Constant (.int 0) j0 p5] p6], 0⟩] scope gpos) X.env) :: starEach [.Constant .none j7 p7] X.env := by rfl)
    (he2 : starEach [.Constant .none j7 p7] X.env = [(false, eval (.Constant .none j7 p7) X.env)] := by rfl) :
    DE X c W (.Call (.Name "next" p) [.GeneratorExp (.Name xa p1) [⟨.Tuple [.Name xa pa, .Name xb pb] kt pt, .Call (.Name "enumerate" p2) [it] [] p3, [.Compare (.Name xb p4) [.NotEq] [.Constant (.int 0) j0 p5] p6], 0⟩] scope gpos, .Constant .none j7 p7] [] pos) (sUn nextD fe) :=
  ⟨(DxE.pe_next Z.hr.toRoom TB hcode S hi.pe hg hm hge hme hda hdb hst0 hs he he2).imp' fun σ H Q ⟨Hf, l, R, h⟩ => run_bind PD.mo R h fun d l1 v H1 Hf1 R1 s1 r1 h1 => by
    cases d with
    | tup ds =>
      obtain ⟨T, vs, rfl, hT, rv⟩ := r1
      have h1 : wpR (opt ((intsD ds).map fun ns => match DxE.fstI ns with
        | some i => D.int (i : Int)
        | none => .non) l1) (PD c σ Q Hf1) (PX c W σ Hf1) := h1
      cases e : intsD ds with
      | none =>
        rw [e] at h1
        exact h1.elim
      | some ns =>
        rw [e] at h1
        have ev := intsD_get e rv
        subst ev
        have tg := R1.dice.tb.gen P (by rw [Z.hc]; exact hq)
        obtain ⟨hfP, ps, hP, ht⟩ := tg
        refine ⟨T, ns, rfl, by rw [Z.hK]; exact sameT R1.sub hT, ⟨ps, hP, ht⟩, fun H2 ⟨⟨ps', hP', ht'⟩, hk⟩ => ?_⟩
        have eH : H2 = upd H1 P (.tbl ps') := by
          funext b
          by_cases eb : b = P
          · rw [eb, hP', upd_same]
          · rw [hk b eb, upd_ne eb]
        have R2 := R1.tblPutG (by rw [Z.hc]; exact hq) (by rw [Z.hc]; exact hq2) hP ht'
        rw [← eH] at R2
        refine PD.flat R2 h1 ?_
        show RVal c.toCn c.ad Hf1 (match DxE.fstI ns with
          | some i => D.int (i : Int)
          | none => D.non) (match DxE.fstI ns with
          | some i => V.int (i : Int)
          | none => V.non)
        cases DxE.fstI ns <;> rfl
    | _ => exact h1.elim⟩
end
end Dx

/-! Dx.Gnx: bodies whose code is known, for inits and defs with defaults; tables of generators' code; keyword-only binds. -/
namespace Dx
open PySem PySem.Spec PyProof.Rows L2
section
variable {P : Program} {w : World} {K : PySem.W.Frag} {mg : Str → Option Value} {base : Heap} {cn : Cn} {x qual : Str} {params : Arguments} {body : List Stmt} {scope : Scope} {f : Addr} {fd : FuncData} {N ps : List Str} {k : Nat} {fb : LSt → Fl} {dvs : List V} {kws : List (Str × V)}
/-- what a def that makes generators has -/
structure TabG' (base : Heap) (K : PySem.W.Frag) (mg : Str → Option Value) (cn : Cn) (f : Addr) : Prop where
  c : cdB K f = true
  tb : GxR.TabB base mg (cdX K f) (tbX K f)
  g : cn.tg (tbX K f) = true
  q : cn.tq (tbX K f) = none
theorem initC {n : Nat} (F : FunD K x qual params body scope dvs kws f fd) (hc : cdB K f = true) (S : FnScope N ps scope)
    (hbody : ∀ (A : Around) (outer : List Env) (s : Shared) (H : Hp) (E : XK) (c : Ac), c.toCn = cn → Room k (A.deeper (envOfC qual scope s.heap.objs.size f (.ref (cdX K f)))) →
      DSs (cxOf (L2.CX P w) P w K mg base N qual scope f (.ref (cdX K f)) A outer s H E) c (fun cls d _ H' => E cls d H') body fb) : FnOk P w K mg base (L2.CX P w) (k + 1) f fd ps (fun vs H Q E => vs.length = ps.length ∧ spI cn n (mOfI N.length ps.length fb) vs H Q E) := by
  obtain ⟨oc, od, dV, kV, doc, pm, an, cdv, ct, osl, rfl, lk, hcd, _, _⟩ := F.ex
  have e : cdv = .ref (cdX K f) := cd_eq lk hc
  refine fn_of lk hcd S (fun vs H Q E h => h.1) fun A outer s H vs Q E hr h => ?_
  rw [e] at hr ⊢
  obtain ⟨hl, Hf, ad, ds, g, vs', rfl, hob, sm, dc, r, h⟩ := h
  refine ⟨_, (hbody A outer s H E { toCn := cn, hid := hidOf cn H Hf g ad, Hf0 := Hf, ad := ad, gs := g.sh } rfl hr).pss, Hf, _, env_startI (N := N) sm dc r, ?_⟩
  have hd : ds.length + 1 = ps.length := by
    rw [r.length, ← hl]
    rfl
  refine ends_ok ?_
  have h' : EndW cn ad g H Hf Q E (mOfI N.length ps.length fb ds g) := by
    cases e : mOfI N.length ps.length fb ds g with
    | ok ev g' => rw [e] at h; exact h
    | ex x g' => rw [e] at h; exact h
    | bad => rw [e] at h; exact h
  unfold mOfI at h'
  rw [if_pos hd] at h'
  rw [hd]
  exact h'
theorem io1C {cl n p : Nat} (hK : K = cn.K) (F : FunD K x qual params body scope dvs kws f fd) (hc : cdB K f = true) (S : FnScope N ps scope)
    (hbody : ∀ (A : Around) (outer : List Env) (s : Shared) (H : Hp) (E : XK) (c : Ac), Ctx (cxOf (L2.CX P w) P w K mg base N qual scope f (.ref (cdX K f)) A outer s H E) c (fun cls d _ H' => E cls d H') cn k →
      DSs (cxOf (L2.CX P w) P w K mg base N qual scope f (.ref (cdX K f)) A outer s H E) c (fun cls d _ H' => E cls d H') body fb) (hn : N.length = n := by rfl) (hp : ps.length = p := by rfl) : OkI P w K mg base cn (k + 1) f fd ps cl (mOfI n p fb) := by
  subst hn hp
  exact initC F hc S fun A outer s H E c hc hr => hbody A outer s H E c ⟨by rw [hc]; exact hK, hc, hr, takes_of rfl rfl rfl rfl, rfl, S.nd, passes_of rfl⟩
end
/-- the scope of (a for a, b in .. if ..), by a test -/
def genSB (scope : Scope) (a b : Str) : Bool := decide (scope.kind = .function) && !scope.isCoroutine && (scope.names.all fun y => !decide (y.2 = .cell) && !decide (y.2 = .free)) && decide (scope.names.lookup (".0" : Str) = some NameKind.local) &&
  decide (scope.names.lookup a = some .local) && decide (scope.names.lookup b = some .local) && decide (a ≠ b)
theorem genS_by {env : Env} {scope : Scope} {a b : Str} (h : genSB scope a b = true) : DxE.GenS2 env scope a b := by
  unfold genSB at h
  simp only [Bool.and_eq_true, Bool.not_eq_true', decide_eq_true_eq, decide_eq_false_iff_not, List.all_eq_true] at h
  obtain ⟨⟨⟨⟨⟨⟨h1, h2⟩, h3⟩, h4⟩, h5⟩, h6⟩, h7⟩ := h
  exact ⟨h1, h2, fun y hy => (h3 y hy).1, h4, h5, h6, h7, fun y hy e => absurd e (h3 y hy).2⟩
/-! ### [..] * n, as an own cell -/
def sRepO (fa fb : LSt → Res D) : LSt → Res CO := fun l => (fa l).bind fun x l => (fb l).bind fun y l => match x, y with
  | .lst a, .int k => if -(2 ^ 63) ≤ k ∧ k < 2 ^ 63 ∧ a.length * k.toNat ≤ szL then .ok (.lst (flatRep k a)) l else .bad
  | _, _ => .bad
theorem do_rep {X : Cx} {c : Ac} {W : WX} {a b : Expr} {pos : Pos} {fa fb : LSt → Res D} (ha : DE X c W a fa) (hb : DE X c W b fb) : DO X c W (.BinOp a .Mult b pos) (sRepO fa fb) :=
  ⟨(pe_op op_rep ha.pe hb.pe).imp' fun σ H Q ⟨Hf, l, R, h⟩ => run_bind PO'.mo R h fun x l1 v H1 Hf1 R1 s1 r1 h1 => run_bind PO'.mo R1 h1 fun y l2 u H2 Hf2 R2 s2 r2 h2 => by
    cases x with
    | lst ds =>
      cases y with
      | int k =>
        have h2 : wpR (if -(2 ^ 63) ≤ k ∧ k < 2 ^ 63 ∧ ds.length * k.toNat ≤ szL then .ok (.lst (flatRep k ds)) l2 else .bad) (PO' c σ Q Hf2) (PX c W σ Hf2) := h2
        split at h2
        · rename_i hz
          obtain ⟨q, xs, rfl, hq, rv⟩ := r1
          cases r2
          exact ⟨q, k, xs, rfl, rfl, R2.sub _ _ (s2 _ _ hq), hz.1, hz.2.1, by rw [← szL_eq, ← rv.length]; exact hz.2.2, fun p n => do_new R2 h2 n ⟨_, rfl, flatRep_vals (RVals.mono s2 _ _ rv) _⟩⟩
        · exact h2.elim
      | _ => exact h2.elim
    | _ => exact h2.elim⟩
end Dx

/-! Dx.Cls: C.m(.., k = v), m a classmethod. -/
namespace Dx
open PySem PySem.Spec PyProof.Rows L2

def sCm (i n j : Nat) (m : Fm) (fa fk : LSt → Res (List D)) : LSt → Res D := fun l => (fa l).bind fun ds l => (fk l).bind fun es l => if ds.length = n ∧ es.length = j then frRes l (m (.glo i :: (ds ++ es)) l.g) else .bad
/-- a classmethod: its class by the number i -/
structure CmOk (P : Program) (w : World) (K : PySem.W.Frag) (mg : Str → Option Value) (base : Heap) (cn : Cn) (k : Nat) (x m : Str) (i n : Nat) (ks : List Str) (fm : Fm) : Prop where
  ex : ∃ (C p g : Addr) (mc : Value), cn.gA i = C ∧ mg x = some (.ref C) ∧ ClX.CRead K C mc ∧ ClX.CMet K C mc m p g ∧ FnRK P w K mg base (L2.CX P w) k g (n + 1) ks (spF cn fm)
section
variable {X : Cx} {c : Ac} {W : WX} {cn : Cn} {k kj n i : Nat} {e : Expr} {es : List Expr} {kws : List Keyword} {pos p0 apos : Pos} {fa fk : LSt → Res (List D)} {fm : Fm} {x m : Str} {ks : List Str} {pl : Sem Bool}
theorem cm_run {σ : L2.St} {H : Hp} {Q : VK} (h : tD c W (sCm i n ks.length fm fa fk) σ H Q) :
    tA c W fa σ H fun vs H1 => tA c W fk σ H1 fun zs H2 => vs.length = n ∧ zs.length = ks.length ∧ spF c.toCn fm (.ref (c.gA i) :: (vs ++ zs)) H2 (LkP Q) (WE W σ) := by
  obtain ⟨Hf, l, R, h⟩ := h
  refine run_bindA PD.mo R h fun ds l1 vs H1 Hf1 R1 s1 r1 h1 => run_bindA PD.mo R1 h1 fun es l2 zs H2 Hf2 R2 s2 r2 h2 => ?_
  split at h2
  · rename_i hz
    exact ⟨r1.length.symm.trans hz.1, r2.length.symm.trans hz.2, spF_res (ds := .glo i :: _) R2 (RVals.cons (show RVal c.toCn c.ad Hf2 (.glo i) (V.ref (c.gA i)) from rfl) ((RVals.mono s2 _ _ r1).append r2)) h2⟩
  · exact h2.elim
theorem e_cm (Z : Ctx X c W cn k) (T : CmOk X.prog X.w X.K X.mg X.base cn kj x m i n ks fm) (hj : kj ≤ k) (ha : DA X c W (e :: es) fa) (hkw : DK X c W kws fk) (hg : Gl X x := by rfl) (hdb : (x == ("__debug__" : Str)) = false := by decide)
    (he : starEach (e :: es) X.env = (false, eval e X.env) :: starEach es X.env := by rfl) (hall : (backToKw pos (keywordEach kws X.env)).all (·.1.isSome) = true := by rfl) (hks : (backToKw pos (keywordEach kws X.env)).filterMap (·.1) = ks := by rfl)
    (hpl : ((backTo pos (starEach (e :: es) X.env)).any (·.1) || (backToKw pos (keywordEach kws X.env)).any (·.1.isNone)) = false := by rfl)
    (ht : eval (.Call (.Attribute (.Name x p0) m apos) (e :: es) kws pos) X.env = (do
      let ov ← eval (.Name x p0) X.env
      standAt apos.atName
      let (f, first) ← holding [ov] (getMethod ov m pl)
      callWith pos f first (backTo pos (starEach (e :: es) X.env)) (backToKw pos (keywordEach kws X.env))) := by rfl) : DE X c W (.Call (.Attribute (.Name x p0) m apos) (e :: es) kws pos) (sCm i n ks.length fm fa fk) := by
  obtain ⟨C, p, g, mc, hC, hm, r, cm, F⟩ := T.ex
  rw [← Z.hc] at F
  refine ⟨(pe_fz (t := fun σ H Q => tA c W fa σ H fun vs H1 => tA c W fk σ H1 fun zs H2 => vs.length = n ∧ zs.length = ks.length ∧ spF c.toCn fm (.ref (c.gA i) :: (vs ++ zs)) H2 Q (WE W σ)) ⟨fun pins s σ H Q I h => ?_⟩).imp' fun _ _ _ h => cm_run h⟩
  refine PySem.W.methodCall_KW (pl := pl) (ld_glob I hg hm ?_ hdb) ht
  refine ClX.getmethcm_ok I r cm fun s2 I2 => ?_
  have hq := ClX.pin_at I2
  refine PySem.W.callWith_of hpl (PySem.W.keeps_M (self := .ref C) cm.fi) (evalArgs_kw2 hall ?_ he)
  refine thn (ha.pa.run pos _ s2 σ H _ I2 h) fun us s3 ⟨vs, H1, I3, r3, q⟩ => thn (hkw.pk.run pos _ s3 σ H1 _ I3 q) fun ws s4 ⟨zs, H2, I4, rz, l1, l2, q2⟩ => ⟨⟨ClX.pin_at I4, I4.kIn⟩, ?_⟩
  rw [hks]
  have hc : c.gA i = C := by rw [← hC, Z.hc]
  rw [hc] at q2
  have z : wpAny (model X.prog X.w) X.A (call (.ref s.heap.objs.size) ([] ++ us) (ks.zip ws)) (EP X ((s.heap.objs.size, PySem.W.methodObj (.ref g) (.ref C)) :: pins) σ Q) X.xe s4 := by
    refine wpAny_call (PySem.W.method_call (ClX.pin_at I4) (codeAny_mono (F.mono hj X.A X.stack s4 H2 (.ref C :: us) ws (.ref C :: vs) zs Q _ Z.hr I4.env0 (.cons rfl r3) rz (congrArg Nat.succ l1) l2 q2) fun r s' hq => ?_))
    cases r with
    | error e => exact passAt Z.tk σ _ H2 s4 e s' I4 hq
    | ok fl =>
      cases fl with
      | ret u => exact I4.after hq
      | next => exact hq.elim
      | brk => exact hq.elim
      | cont => exact hq.elim
  exact thn z fun _ _ y => ClX.unpinE y
end
/-- the def behind a classmethod -/
theorem cmB_ok {K : PySem.W.Frag} {C : Addr} {m : Str} (h : cmB K C m = true) : ClX.CRead K C (.type "type") ∧ ClX.CMet K C (.type "type") m (atX K C m) (cmG K C m) := by
  unfold cmB at h
  simp only [Bool.and_eq_true] at h
  obtain ⟨⟨⟨⟨h1, h2⟩, h3⟩, h4⟩, h5⟩ := h
  refine ⟨⟨h1, He.eqO_ok h2⟩, ?_, ?_, h5⟩
  · split at h3
    · rename_i s p C' e
      simp only [Bool.and_eq_true, decide_eq_true_eq] at h3
      obtain ⟨⟨e1, e2⟩, e3⟩ := h3
      rw [e, e1, eq_of_beq e2, eq_of_beq e3]
    · cases h3
  · unfold cmG
    split at h4
    · rename_i g rest e
      rw [e]
      exact ⟨rest, rfl⟩
    · cases h4
/-! ### isinstance(x, int), x maybe an instance of an own class -/
structure IskOk (cn : Cn) (tb : Nat → Bool) : Prop where
  own : ∀ n, tb n = true → SlX.SCls cn.K (cn.cA n) ∧ SlX.SIsi cn.K (cn.cA n) ∧ ∀ t ∈ [0, 1, 2, 3, 4, 5], PySem.W.kitOne cn.K (.ref (cn.cA n)) (.type (kindN t)) = some false
def isiK (tb : Nat → Bool) (t : Nat) : D → Option D
  | .ins n _ => if tb n = true then some (.bl false) else none
  | d => isiD t d
section
variable {X : Cx} {c : Ac} {W : WX} {cn : Cn} {k : Nat} {e : Expr} {fe : LSt → Res D} {p pt pos : Pos} {y : Str} {tb : Nat → Bool}
theorem e_isiK (t : Nat) (ht : t ∈ [0, 1, 2, 3, 4, 5]) (Z : Ctx X c W cn k) (J : IskOk cn tb) (hm : X.mg "isinstance" = none) (he : DE X c W e fe) (hmt : X.mg y = none) (hv : bootBuiltins y = some (.type (kindN t)) := by rfl) (hg : Gl X "isinstance" := by rfl) (hgt : Gl X y := by rfl)
    (hn : y ≠ "__name__" := by decide) (hd : (y == ("__debug__" : Str)) = false := by decide) (hs : starEach (e :: [.Name y pt]) X.env = (false, eval e X.env) :: starEach [.Name y pt] X.env := by rfl) (hs2 : starEach [.Name y pt] X.env = [(false, eval (.Name y pt) X.env)] := by rfl)
    (hpl : (backTo pos (starEach [.Name y pt] X.env)).any (·.1) = false := by rfl) : DE X c W (.Call (.Name "isinstance" p) [e, .Name y pt] [] pos) (sUn (isiK tb t) fe) :=
  ⟨(pe_callB (call_isi2.or (SlX.call_isiSl (u := .type (kindN t)))) hg hm (by rfl) (pa_cons he.pe (pa_cons (pe_bltn hgt hmt hv (v := .ty (kindN t)) rfl hn hd) pa_nil hs2) hs) (by decide) (by decide) hs hpl).imp' fun _ _ _ ⟨Hf, l, R, h⟩ => run_bind PD.mo R h fun d l1 v H1 Hf1 R1 s1 r1 h1 => by
    have kit : ∀ n, kindD d = some n → isiK tb t d = some (.bl (isiB n t)) → rIsi2 X.K [v, .ty (kindN t)] H1 _ := fun n ek e2 => by
      rw [e2] at h1
      refine ⟨v, .ty (kindN t), .type (kindN n), .type (kindN t), isiB n t, rfl, .ty _, ?_, ?_, h1 _ H1 Hf1 R1 (Same.refl _) rfl⟩
      · rw [Z.hK]
        exact kind_ty ek R1.sub r1
      · rw [kit_any]
        exact kit_tab n (kind_lt ek) t ht
    cases d with
    | ins n fs =>
      have h1 : wpR (opt (if tb n = true then some (D.bl false) else none) l1) (PD c _ _ Hf1) (PX c W _ Hf1) := h1
      cases e1 : tb n with
      | false =>
        rw [e1] at h1
        exact h1.elim
      | true =>
        rw [e1] at h1
        obtain ⟨a, dx, vs, rfl, ha, hdx, rv⟩ := r1
        obtain ⟨k1, k2, k3⟩ := J.own n e1
        rw [show c.cA n = cn.cA n by rw [Z.hc]] at ha
        refine .inr ⟨a, cn.cA n, dx, vs.map some, .ty (kindN t), false, rfl, rfl, fun w hw => hw, .inr ⟨R1.sub _ _ ha, R1.sub _ _ hdx⟩, ?_, ?_, ?_, h1 _ H1 Hf1 R1 (Same.refl _) rfl⟩
        · rw [Z.hK, show c.K = cn.K by rw [← Z.hc]]
          exact k1
        · rw [Z.hK, show c.K = cn.K by rw [← Z.hc]]
          exact k2
        · rw [Z.hK, show c.K = cn.K by rw [← Z.hc]]
          exact k3 t ht
    | non => exact .inl (kit _ rfl rfl)
    | bl _ => exact .inl (kit _ rfl rfl)
    | int _ => exact .inl (kit _ rfl rfl)
    | str _ => exact .inl (kit _ rfl rfl)
    | tup _ => exact .inl (kit _ rfl rfl)
    | lst _ => exact .inl (kit _ rfl rfl)
    | dK _ _ => exact .inl (kit _ rfl rfl)
    | dT _ _ => exact .inl (kit _ rfl rfl)
    | _ => exact h1.elim⟩
end
theorem iskB_ok {K : PySem.W.Frag} {A : Addr} (h : iskB K A = true) : SlX.SIsi K A ∧ ∀ t ∈ [0, 1, 2, 3, 4, 5], PySem.W.kitOne K (.ref A) (.type (kindN t)) = some false := by
  unfold iskB isB.sclT at h
  simp only [Bool.and_eq_true, decide_eq_true_eq] at h
  exact ⟨⟨h.1.1.1.1, h.1.1.1.2, h.1.1.2, h.1.2⟩, fun t ht => of_decide_eq_true (List.all_eq_true.mp h.2 t ht)⟩
end Dx

/-! Dx.Par: a, b = [..], [] with both lists as own cells. -/
namespace Dx
open PySem PySem.Spec PyProof.Rows L2
def zParLE (i j : Nat) (fa : LSt → Res (List D)) : LSt → Fl := fun l => (fa l).toFl fun ds l => if ds.length ≤ szL ∧ i ≠ j ∧ i < l.sl.length then .nx ((l.put i (.own (.lst ds))).put j (.own (.lst []))) else .bad
theorem hid_none {c : Ac} {Hf H : Hp} {σ : L2.St} {l : LSt} (R : REnv c Hf σ H l) {p : Addr} (hp : H p = none) : c.hid p = none := by
  cases e0 : c.hid p with
  | none => rfl
  | some u =>
    have := (R.frame p u e0).1
    rw [hp] at this
    cases this
theorem own_ne {c : Ac} {Hf H : Hp} {σ : L2.St} {l : LSt} (R : REnv c Hf σ H l) {p : Addr} (hp : H p = none) (j : Nat) (s : Slot) (hj : l.sl[j]? = some s) (ho : isOwn s = true) : σ[j]? ≠ some (some (.ref p)) := fun e => by
  cases s with
  | own co' =>
    obtain ⟨a', o', e', ha', _⟩ := R.own hj
    rw [e'] at e
    cases e
    rw [hp] at ha'
    cases ha'
  | _ => cases ho
section
variable {X : Cx} {c : Ac} {W : WX} {i j : Nat} {x y : Str} {es : List Expr} {px py pt pos p1 p2 : Pos} {kt k2 pt2} {fa : LSt → Res (List D)}
theorem ds_parLE (hc : X.calm = true) (hN : X.N.Nodup) (hi : X.N[i]? = some x) (hj : X.N[j]? = some y) (hij : i ≠ j) (hx : X.env.scope.names.lookup x = some .local) (hy : X.env.scope.names.lookup y = some .local) (ha : DA X c W es fa)
    (hw : swappedStores [.Tuple [.Name x px, .Name y py] kt pt] (.Tuple [.List es p1, .List [] p2] k2 pt2) X.env = pure (some [x, y])) (hs : swapsWithSole [.Tuple [.Name x px, .Name y py] kt pt] (.Tuple [.List es p1, .List [] p2] k2 pt2) pos.line X.env = pure false := by rfl)
    (h1 : starEach [.List es p1, .List [] p2] X.env = (false, eval (.List es p1) X.env) :: starEach [.List [] p2] X.env := by rfl) (h2 : starEach [.List [] p2] X.env = (false, eval (.List [] p2) X.env) :: starEach [] X.env := by rfl) :
    DS X c W (.Assign [.Tuple [.Name x px, .Name y py] kt pt] (.Tuple [.List es p1, .List [] p2] k2 pt2) pos) (zParLE i j fa) :=
  ⟨(ps_par hc hN hi hj hij hx hy (pa_cons (pe_lst ha.pa) (pa_cons (pe_lst pa_nil) pa_nil h2) h1) hw hs).imp' fun D σ H ⟨Hf, l, R, hh⟩ => to_bindA R hh fun ds l1 vs H1 Hf1 R1 s1 r1 h1 => by
    split at h1
    · rename_i hz
      obtain ⟨hz, _, hil⟩ := hz
      refine ⟨by rw [← szL_eq, ← r1.length]; exact hz, fun p np => ⟨Nat.zero_le _, fun q nq => ⟨.ref p, .ref q, rfl, ?_⟩⟩⟩
      have qp : q ≠ p := fun z => by
        rw [z, upd_same] at nq
        cases nq
      have R2 := R1.hid (o := .lst vs) np
      have R3 := R2.hid (o := .lst []) nq
      have R4 := R3.storeO (i := i) (a := p) (co := .lst ds) (o := .lst vs) (by rw [upd_ne (Ne.symm qp), upd_same]) ⟨vs, rfl, r1⟩ (R1.free np) (hid_none R1 np) (R1.dice.new np) (own_ne R1 np)
      have R5 := R4.storeO (i := j) (a := q) (co := .lst []) (o := .lst []) upd_same ⟨[], rfl, .nil⟩ (R2.free nq) (hid_none R2 nq) (R2.dice.new nq) (fun k s hk ho e => by
        have hk : (l1.sl.set i (.own (.lst ds)))[k]? = some s := hk
        by_cases z : k = i
        · rw [z, List.getElem?_set_self (by rw [R1.len]; exact hil)] at e
          cases e
          exact qp rfl
        · rw [List.getElem?_set_ne (Ne.symm z)] at hk e
          exact own_ne R2 nq k s hk ho e)
      exact h1 _ _ Hf1 R5 (Same.refl _)
    · exact h1.elim⟩
/-- the same by a tuple that is unpacked (a name is a cell) -/
theorem ds_parLC (hc : X.calm = true) (hK : X.K = c.K) (gx : PG X (.Name x px) (gName i)) (gy : PG X (.Name y py) (gName j)) (ha : DA X c W es fa)
    (hs : swapsWithSole [.Tuple [.Name x px, .Name y py] kt pt] (.Tuple [.List es p1, .List [] p2] k2 pt2) pos.line X.env = pure false := by rfl) (hw : swappedStores [.Tuple [.Name x px, .Name y py] kt pt] (.Tuple [.List es p1, .List [] p2] k2 pt2) X.env = pure none := by rfl)
    (h1 : starEach [.List es p1, .List [] p2] X.env = (false, eval (.List es p1) X.env) :: starEach [.List [] p2] X.env := by rfl) (h2 : starEach [.List [] p2] X.env = (false, eval (.List [] p2) X.env) :: starEach [] X.env := by rfl) 
    (hn : (assignEach [.Name x px, .Name y py] X.env).length = 2 := by rfl) (hst : (assignEach [.Name x px, .Name y py] X.env).findIdx? (·.1) = none := by rfl) :
    DS X c W (.Assign [.Tuple [.Name x px, .Name y py] kt pt] (.Tuple [.List es p1, .List [] p2] k2 pt2) pos) (zParLE i j fa) :=
  ⟨(ps_asg (pe_tup (pa_cons (pe_lst ha.pa) (pa_cons (pe_lst pa_nil) pa_nil h2) h1)) (pg_tup hc (pgs_cons gx (pgs_cons gy pgs_nil)) hn hst) hs hw).imp' fun D σ H ⟨Hf, l, R, hh⟩ => to_bindA R hh fun ds l1 vs H1 Hf1 R1 s1 r1 h1 => by
    split at h1
    · rename_i hz
      obtain ⟨hz, _, hil⟩ := hz
      refine ⟨by rw [← szL_eq, ← r1.length]; exact hz, fun p np => ⟨Nat.zero_le _, fun q nq => ⟨by rw [sizeLine_eq]; simp, fun T nT => ?_⟩⟩⟩
      have qp : q ≠ p := fun z => by
        rw [z, upd_same] at nq
        cases nq
      have Tq : T ≠ q := fun z => by
        rw [z, upd_same] at nT
        cases nT
      have Tp : T ≠ p := fun z => by
        rw [z, upd_ne (Ne.symm qp), upd_same] at nT
        cases nT
      refine ⟨T, [.ref p, .ref q], rfl, .inl (.inl upd_same), rfl, .ref p, [.ref q], rfl, .ref q, [], rfl, rfl, ?_⟩
      have R2 := R1.hid (o := .lst vs) np
      have R3 := R2.hid (o := .lst []) nq
      have R3 := R3.hid (o := .tup [.ref p, .ref q]) nT
      have R4 := R3.storeO (i := i) (a := p) (co := .lst ds) (o := .lst vs) (by rw [upd_ne (Ne.symm Tp), upd_ne (Ne.symm qp), upd_same]) ⟨vs, rfl, r1⟩ (R1.free np) (hid_none R1 np) (R1.dice.new np) (own_ne R1 np)
      have R5 := R4.storeO (i := j) (a := q) (co := .lst []) (o := .lst []) (by rw [upd_ne (Ne.symm Tq), upd_same]) ⟨[], rfl, .nil⟩ (R2.free nq) (hid_none R2 nq) (R2.dice.new nq) (fun k s hk ho e => by
        have hk : (l1.sl.set i (.own (.lst ds)))[k]? = some s := hk
        by_cases z : k = i
        · rw [z, List.getElem?_set_self (by rw [R1.len]; exact hil)] at e
          cases e
          exact qp rfl
        · rw [List.getElem?_set_ne (Ne.symm z)] at hk e
          exact own_ne R2 nq k s hk ho e)
      exact h1 _ _ Hf1 R5 (Same.refl _)
    · exact h1.elim⟩
end
end Dx

/-! Dx.Rep2: repr of tuples and lists. -/
namespace Dx
open PySem PySem.Spec PyProof.Rows L2

mutual
def toPy : D → Option PyData
  | .non => some .none
  | .bl b => some (.bool b)
  | .int i => some (.int i)
  | .str x => some (.str x)
  | .tup ds => (toPys ds).map .tuple
  | .lst ds => (toPys ds).map .list
  | _ => none
def toPys : List D → Option (List PyData)
  | [] => some []
  | d :: ds => match toPy d, toPys ds with
    | some x, some xs => some (x :: xs)
    | _, _ => none
end
theorem reads_tup {h : Heap} {a : Addr} {its : List Value} {ps : List PyData} {as : List Addr} (t : IsTup h a its.toArray) (r : ReadsAll h its ps as) : Reads h (.ref a) (.tuple ps) as := by
  obtain ⟨o, h1, h2, n, h3⟩ := t
  exact .tuple h1 h2 h3 r
theorem reads_lst {h : Heap} {a : Addr} {its : List Value} {ps : List PyData} {as : List Addr} (t : PlainL h a its.toArray) (r : ReadsAll h its ps as) : Reads h (.ref a) (.list ps) (a :: as) := by
  obtain ⟨o, n, h1, h2, _, h3⟩ := t
  exact .list h1 h2 h3 r
section
variable {X : Cx} {cn : Cn} {ad : Ad} {pins : List (Addr × Obj)} {σ : L2.St} {H Hf : Hp} {s : Shared}
mutual
theorem toPy_reads (hK : X.K = cn.K) (I : Inv X pins σ H s) (sub : Same Hf H) : ∀ (d : D) (v : V) (u : Value) (p : PyData), RVal cn ad Hf d v → RelV v u → toPy d = some p → ∃ as, Reads s.heap u p as
  | .non, v, u, p, h, r, e => by
    cases (show v = .non from h); cases (show u = .none from r); cases e
    exact ⟨_, .none⟩
  | .bl b, v, u, p, h, r, e => by
    cases (show v = .bl b from h); cases (show u = .bool b from r); cases e
    exact ⟨_, .bool b⟩
  | .int i, v, u, p, h, r, e => by
    cases (show v = .int i from h)
    obtain ⟨t, rfl⟩ := r
    cases e
    exact ⟨_, .int i t⟩
  | .str x, v, u, p, h, r, e => by
    cases (show v = .str x from h)
    obtain ⟨t, rfl⟩ := r
    cases e
    exact ⟨_, .str x t⟩
  | .tup ds, v, u, p, h, r, e => by
    obtain ⟨a, vs, q, h1, rs⟩ := h
    rw [q] at r
    have eu : u = .ref a := r
    rw [eu]
    unfold toPy at e
    obtain ⟨ps, e1, e2⟩ := Option.map_eq_some_iff.mp e
    have hs : SqT X.K H a vs := by rw [hK]; exact sameT sub h1
    obtain ⟨its, rv, ht, _⟩ := I.tuple hs
    obtain ⟨as, ra⟩ := toPys_reads hK I sub ds vs its ps rs rv e1
    rw [← e2]
    exact ⟨_, reads_tup ht ra⟩
  | .lst ds, v, u, p, h, r, e => by
    obtain ⟨a, vs, q, h1, rs⟩ := h
    rw [q] at r
    have eu : u = .ref a := r
    rw [eu]
    unfold toPy at e
    obtain ⟨ps, e1, e2⟩ := Option.map_eq_some_iff.mp e
    have hs : SqL X.K H a vs := SqL.of (sub _ _ h1)
    obtain ⟨its, rv, ht, _⟩ := I.list hs
    obtain ⟨as, ra⟩ := toPys_reads hK I sub ds vs its ps rs rv e1
    rw [← e2]
    exact ⟨_, reads_lst ht ra⟩
  | .dK _ _, v, u, p, h, r, e => nomatch e
  | .dT _ _, v, u, p, h, r, e => nomatch e
  | .ins _ _, v, u, p, h, r, e => nomatch e
  | .scr _, v, u, p, h, r, e => nomatch e
  | .ty _, v, u, p, h, r, e => nomatch e
  | .glo _, v, u, p, h, r, e => nomatch e
  | .dice, v, u, p, h, r, e => nomatch e
  | .rng _ _, v, u, p, h, r, e => nomatch e
termination_by structural d => d
theorem toPys_reads (hK : X.K = cn.K) (I : Inv X pins σ H s) (sub : Same Hf H) : ∀ (ds : List D) (vs : List V) (us : List Value) (ps : List PyData), RVals cn ad Hf ds vs → Vals vs us → toPys ds = some ps → ∃ as, ReadsAll s.heap us ps as
  | [], vs, us, ps, h, r, e => by
    cases (show vs = [] from h)
    cases r
    cases e
    exact ⟨_, .nil⟩
  | d :: ds, vs, us, ps, ⟨v, vr, q, h, hs⟩, r, e => by
    subst q
    cases r with
    | cons r1 rs =>
      unfold toPys at e
      cases e1 : toPy d with
      | none => rw [e1] at e; cases e
      | some x =>
        cases e2 : toPys ds with
        | none => rw [e1, e2] at e; cases e
        | some xs =>
          rw [e1, e2] at e
          cases e
          obtain ⟨a1, z1⟩ := toPy_reads hK I sub d v _ x h r1 e1
          obtain ⟨a2, z2⟩ := toPys_reads hK I sub ds vr _ xs hs rs e2
          exact ⟨_, .cons z1 z2⟩
termination_by structural ds => ds
end
end
/-- repr of a tuple, a list -/
def showC (d : D) : Option D := match toPy d with
  | some p => if p.showable && (!p.hasDict && (decide (p.depth ≤ 20) && decide (p.shown.length ≤ szL))) then some (.str p.shown) else none
  | none => none
def reprX : List D → Option D
  | [.non] => some (.str "None")
  | [.bl b] => some (.str (if b then "True" else "False"))
  | [.int i] => if i.natAbs.log2 < 1920 then some (.str (toString i)) else none
  | [.str x] => if (reprText x).length ≤ szL then some (.str (reprText x)) else none
  | [.tup ds] => showC (.tup ds)
  | [.lst ds] => showC (.lst ds)
  | _ => none
def rReprX (X : Cx) (cn : Cn) : List V → Hp → VK → Prop := fun xs H Q => rReprF xs H Q ∨ ∃ (ad : Ad) (Hf : Hp) (d : D) (a : Addr) (p : PyData), xs = [.ref a] ∧ Same Hf H ∧ RVal cn ad Hf d (.ref a) ∧ toPy d = some p ∧ p.showable = true ∧ p.hasDict = false ∧ p.depth ≤ 20 ∧ p.shown.length ≤ szL ∧ Q (.str p.shown) H
theorem cr_reprX {X : Cx} {cn : Cn} (hK : X.K = cn.K) (hg : X.A.guards = some []) (hu : X.A.units + 64 < cLine) : CallR X (.builtin "repr") (rReprX X cn) := by
  intro pins s σ H xs us Q I r h
  rcases h with h | ⟨ad, Hf, d, a, p, rfl, sub, rv, e, h1, h2, h3, h4, q⟩
  · exact cr_reprF pins s σ H xs us Q I r h
  · cases r with
    | cons r1 t =>
      cases t
      obtain ⟨as, rd⟩ := toPy_reads hK I sub d _ _ p rv r1 e
      cases (show _ = Value.ref a from r1)
      exact repr_of_reads' rd h1 (PyData.noDict_hsm h2) hg (by omega) (fun _ _ z => z) (fun h' u tk keep => ⟨.str p.shown, H, I.kept keep, ⟨_, rfl⟩, q⟩) (by rw [← szL_eq]; exact h4)
theorem ok_reprX {X : Cx} {c : Ac} : BltOk c (rReprX X c.toCn) reprX := by
  have big : ∀ {Hf H : Hp} {σ : L2.St} {l : LSt} {d0 d : D} {v : V} {Q : VK}, REnv c Hf σ H l → (∃ a, v = .ref a) → RVal c.toCn c.ad Hf d0 v → showC d0 = some d → PD c σ Q Hf d l → rReprX X c.toCn [v] H Q := by
    intro Hf H σ l d0 d v Q R hv rv e q
    obtain ⟨a, rfl⟩ := hv
    unfold showC at e
    cases e1 : toPy d0 with
    | none => rw [e1] at e; cases e
    | some p =>
      rw [e1] at e
      have e : (if p.showable && (!p.hasDict && (decide (p.depth ≤ 20) && decide (p.shown.length ≤ szL))) then some (D.str p.shown) else none) = some d := e
      split at e
      · rename_i z
        cases e
        simp only [Bool.and_eq_true, Bool.not_eq_true', decide_eq_true_eq] at z
        exact .inr ⟨c.ad, Hf, d0, a, p, rfl, R.sub, rv, e1, z.1, z.2.1, z.2.2.1, z.2.2.2, q.flat R rfl⟩
      · cases e
  intro Hf H σ l ds d vs Q R r e q
  match ds, e, r with
  | [.non], e, r => exact .inl (ok_repr Hf H σ l _ d vs Q R r e q)
  | [.bl b], e, r => exact .inl (ok_repr Hf H σ l _ d vs Q R r e q)
  | [.int i], e, r => exact .inl (ok_repr Hf H σ l _ d vs Q R r e q)
  | [.str x], e, r => exact .inl (ok_repr Hf H σ l _ d vs Q R r e q)
  | [.tup xs], e, r =>
    obtain ⟨y, rfl, h1⟩ := rvals1 r
    exact big R (let ⟨a, _, e, _⟩ := h1; ⟨a, e⟩) h1 e q
  | [.lst xs], e, r =>
    obtain ⟨y, rfl, h1⟩ := rvals1 r
    exact big R (let ⟨a, _, e, _⟩ := h1; ⟨a, e⟩) h1 e q
section
variable {X : Cx} {c : Ac} {W : WX} {cn : Cn} {k : Nat} {a : Expr} {p pos : Pos} {fa : LSt → Res D}
theorem e_reprH (hK : X.K = c.K) (gd : X.A.guards = some []) (hu : X.A.units + 64 < cLine) (hm : X.mg "repr" = none) (ha : DE X c W a fa) (hg : Gl X "repr" := by rfl) (he : starEach [a] X.env = (false, eval a X.env) :: starEach [] X.env := by rfl) : DE X c W (.Call (.Name "repr" p) [a] [] pos) (sBlt reprX (sCons fa sNil)) :=
  de_blt (cr_reprX (cn := c.toCn) hK gd hu) ok_reprX hg hm (by rfl) (da_cons ha da_nil he) (by decide) (by decide) he
theorem e_reprX (Z : Ctx X c W cn k) (hm : X.mg "repr" = none) (ha : DE X c W a fa) (hg : Gl X "repr" := by rfl) (he : starEach [a] X.env = (false, eval a X.env) :: starEach [] X.env := by rfl) : DE X c W (.Call (.Name "repr" p) [a] [] pos) (sBlt reprX (sCons fa sNil)) :=
  de_blt (cr_reprX (cn := c.toCn) Z.hK Z.hr.gd Z.hr.units) ok_reprX hg hm (by rfl) (da_cons ha da_nil he) (by decide) (by decide) he
end
end Dx

/-! Dx.Slc2: slices with a step; a tuple's slice that is the whole of it. -/
namespace Dx
open PySem PySem.Spec PyProof.Rows L2

/-! ### picks by indices -/
def pickIx {α : Type} (xs : List α) (ix : List Nat) : List α := ix.filterMap (xs[·]?)
theorem pickIx_len {α β : Type} {xs : List α} {ys : List β} (h : xs.length = ys.length) : ∀ ix : List Nat, (pickIx xs ix).length = (pickIx ys ix).length
  | [] => rfl
  | i :: ix => by
    have ih := pickIx_len h ix
    unfold pickIx at ih ⊢
    by_cases hi : i < xs.length
    · have hj : i < ys.length := by omega
      rw [List.filterMap_cons, List.filterMap_cons, List.getElem?_eq_getElem hi, List.getElem?_eq_getElem hj]
      simp only [List.length_cons, ih]
    · have hj : ¬ i < ys.length := by omega
      rw [List.filterMap_cons, List.filterMap_cons, List.getElem?_eq_none (by omega), List.getElem?_eq_none (by omega)]
      exact ih
theorem RVals.pick {c : Cn} {ad : Ad} {H : Hp} {ds : List D} {vs : List V} (h : RVals c ad H ds vs) : ∀ ix : List Nat, RVals c ad H (pickIx ds ix) (pickIx vs ix)
  | [] => rfl
  | i :: ix => by
    have ih := RVals.pick h ix
    have hl := h.length
    unfold pickIx at ih ⊢
    by_cases hi : i < ds.length
    · have e : ds[i]? = some ds[i] := List.getElem?_eq_getElem hi
      obtain ⟨v, e2, r⟩ := h.get e
      rw [List.filterMap_cons, List.filterMap_cons, e, e2]
      exact .cons r ih
    · rw [List.filterMap_cons, List.filterMap_cons, List.getElem?_eq_none (by omega), List.getElem?_eq_none (by omega)]
      exact ih
theorem Paired.pickIx' {vs : List V} {us : List Value} (h : Vals vs us) : ∀ ix : List Nat, Vals (pickIx vs ix) (pickIx us ix)
  | [] => .nil
  | i :: ix => by
    have ih := Paired.pickIx' h ix
    have hl := h.length
    unfold pickIx at ih ⊢
    by_cases hi : i < vs.length
    · have e : vs[i]? = some vs[i] := List.getElem?_eq_getElem hi
      obtain ⟨v, e2, r⟩ := h.get e
      rw [List.filterMap_cons, List.filterMap_cons, e, e2]
      exact .cons r ih
    · rw [List.filterMap_cons, List.filterMap_cons, List.getElem?_eq_none (by omega), List.getElem?_eq_none (by omega)]
      exact ih
/-- the places of a list's slice; of a tuple's -/
def ixL (n : Nat) (lo hi st : Option Int) : List Nat := sliceRange (sliceBounds lo hi st n).1 (sliceBounds lo hi st n).2.1 (sliceBounds lo hi st n).2.2
def ixT (n : Nat) (lo hi : Option Int) (st : Int) : List Nat := (List.range (Builtin.Slice.slicePlaces (Builtin.Slice.sliceAdjust lo hi st n).1 (Builtin.Slice.sliceAdjust lo hi st n).2 st)).map fun (m : Nat) => ((Builtin.Slice.sliceAdjust lo hi st n).1 + (m : Int) * st).toNat
theorem slicePick_ix (us : List Value) (lo hi st : Option Int) : slicePick us.toArray lo hi st = (pickIx us (ixL us.length lo hi st)).toArray := by
  unfold slicePick pickIx ixL
  rw [List.size_toArray]
  congr 1
  congr 1
  funext i
  simp
section
variable {prog : Program} {w : World} {A : Around} {E : Value → Shared → Prop} {s : Shared}
theorem sliceApplied_st {sl : Addr} {vl vu vs : Value} {lo hi : Option Int} {c : Int} {n : Nat} {Q : Int × Int × Nat → Shared → Prop} (hs : s.heap.IsSliceOf sl vl vu vs) (pl : IsPart vl lo) (pu : IsPart vu hi) (ps : IsPart vs (some c)) (h0 : c ≠ 0)
    (h : Q ((Builtin.Slice.sliceAdjust lo hi c n).1, c, Builtin.Slice.slicePlaces (Builtin.Slice.sliceAdjust lo hi c n).1 (Builtin.Slice.sliceAdjust lo hi c n).2 c) s) : wpAny (model prog w) A (Builtin.Slice.sliceApplied (.ref sl) (pure (n : Int))) Q E s := by
  obtain ⟨os, o1, o2, o3⟩ := id hs
  unfold Builtin.Slice.sliceApplied Builtin.Slice.sliceFields
  refine wpAny_bind (wpAny_bind (wpAny_field o1 o3 (x := vl) rfl (wpAny_bind (wpAny_field o1 o3 (x := vu) rfl (wpAny_bind (wpAny_field o1 o3 (x := vs) rfl (wpAny_pure ?_)))))))
  refine wpAny_bind (HT.slicePart_ ps ?_)
  show wpAny _ _ (if (c == 0) = true then _ else _) _ _ s
  rw [if_neg (fun z => h0 (eq_of_beq z))]
  exact wpAny_bind (HT.slicePart_ pl (wpAny_bind (HT.slicePart_ pu (wpAny_bind (wpAny_pure (wpAny_pure h))))))
theorem getItem_tuple_st {t sl : Addr} {us : List Value} {vl vu vs : Value} {lo hi : Option Int} {c : Int} {Q : Value → Shared → Prop} (ht : IsTup s.heap t us.toArray) (hs : s.heap.IsSliceOf sl vl vu vs) (pl : IsPart vl lo) (pu : IsPart vu hi) (ps : IsPart vs (some c)) (h0 : c ≠ 0) (h1 : c ≠ 1)
    (h : Q (.ref s.heap.objs.size) { s with heap := s.heap.push { cls := .type "tuple", data := .seq (pickIx us (ixT us.length lo hi c)).toArray } }) (hsz : (pickIx us (ixT us.length lo hi c)).length ≤ sizeLine) : wpAny (model prog w) A (getItem (.ref t) (.ref sl)) Q E s := by
  have isSl : s.TypeIs (.ref sl) "slice" := let ⟨os, o1, o2, _⟩ := hs; ⟨os, o1, o2⟩
  have ok : sizeOk (.seq (pickIx us (ixT us.length lo hi c)).toArray) := by
    show (pickIx us (ixT us.length lo hi c)).toArray.size ≤ sizeLine
    rw [List.size_toArray]
    exact hsz
  unfold getItem
  try with_reducible refine wpAny_holding ?_
  first | refine wpAny_bind (wpAny_pure ?_) | skip
  refine wpAny_bind (wpAny_sequenceKey ht.typeIs (by decide) ?_)
  refine wpAny_bind (wpAny_callSpecial?_slot (name := Str.ofString "__getitem__") ht.typeIs PyProof.Rows.slot_tuple_getitem (wpAny_call_entry PyProof.Rows.slot_tuple_getitem ht.typeIs entry_tuple_getitem ?_ (args_tuple_getitem _ _)))
  show wpAny _ _ (Builtin.Tuple.tupleItemsOf (.ref t) >>= _) _ _ s
  refine wpAny_bind (tupleItemsOf_ ht (wpAny_bind (wpAny_typeOf isSl ?_)))
  rw [if_pos (by decide)]
  refine wpAny_bind (sliceApplied_st (n := us.length) hs pl pu ps h0 ?_)
  have hno : ¬ (((Builtin.Slice.sliceAdjust lo hi c us.length).1 == 0 && c == 1 && (Builtin.Slice.slicePlaces (Builtin.Slice.sliceAdjust lo hi c us.length).1 (Builtin.Slice.sliceAdjust lo hi c us.length).2 c) == us.toArray.size) = true) := by
    intro q
    rw [Bool.and_eq_true, Bool.and_eq_true] at q
    exact h1 (eq_of_beq q.1.2)
  show wpAny _ _ (if ((Builtin.Slice.sliceAdjust lo hi c us.length).1 == 0 && c == 1 && (Builtin.Slice.slicePlaces (Builtin.Slice.sliceAdjust lo hi c us.length).1 (Builtin.Slice.sliceAdjust lo hi c us.length).2 c) == us.toArray.size) = true then _ else _) _ _ s
  rw [if_neg hno]
  have e : ((List.range (Builtin.Slice.slicePlaces (Builtin.Slice.sliceAdjust lo hi c us.length).1 (Builtin.Slice.sliceAdjust lo hi c us.length).2 c)).filterMap fun (m : Nat) => us.toArray[((Builtin.Slice.sliceAdjust lo hi c us.length).1 + (m : Int) * c).toNat]?).toArray = (pickIx us (ixT us.length lo hi c)).toArray := by
    unfold pickIx ixT
    rw [List.filterMap_map]
    congr 1
    congr 1
    funext m
    simp
  rw [e]
  first
    | exact wpAny_bind (m := Builtin.Tuple.tupleExact _) (wpAny_newObj_type (wpAny_pure ⟨_, rfl, wpAny_pure h⟩) ok)
    | exact wpAny_bind (m := Builtin.Tuple.tupleExact _) (wpAny_newObj_type (wpAny_bind (wpAny_pure (wpAny_pure ⟨_, rfl, wpAny_pure h⟩))) ok)
    | exact wpAny_bind (wpAny_bind (m := Builtin.Tuple.tupleExact _) (wpAny_newObj_type (wpAny_pure (wpAny_pure ⟨_, rfl, wpAny_pure h⟩)) ok))
    | exact wpAny_bind (wpAny_bind (m := Builtin.Tuple.tupleExact _) (wpAny_newObj_type (wpAny_pure ⟨_, rfl, wpAny_pure h⟩) ok))
end
def tSl3 (K : PySem.W.Frag) (ta : TE) (tl th ts : TO) : TE := fun σ H Q => ta σ H fun x H1 => tl σ H1 fun lo H2 => th σ H2 fun hi H3 => ts σ H3 fun st H4 => ∃ (a : Addr) (xs : List V) (c : Int), x = .ref a ∧ st = some c ∧ c ≠ 0 ∧
  ((SqL K H4 a xs ∧ ∀ p, H4 p = none → Q (.ref p) (upd H4 p (.lst (pickIx xs (ixL xs.length lo hi st))))) ∨
   (SqT K H4 a xs ∧ c ≠ 1 ∧ (pickIx xs (ixT xs.length lo hi c)).length ≤ sizeLine ∧ ∀ p, H4 p = none → Q (.ref p) (upd H4 p (.tup (pickIx xs (ixT xs.length lo hi c))))))
theorem pe_sl3 {X : Cx} {e : Expr} {lo hi : Option Expr} {st : Expr} {te : TE} {tl th ts : TO} {p3 pos : Pos} (he : PE X e te) (hl : PO X lo tl) (hh : PO X hi th) (hst : PO X (some st) ts) : PE X (.Subscript e (.Slice lo hi (some st) p3) pos) (tSl3 X.K te tl th ts) := by
  refine ⟨fun pins s σ H Q I h => Subscript_ (thn (he.run pins s σ H _ I h) fun v s1 ⟨x, H1, I1, r1, q1⟩ => ?_)⟩
  refine wpAny_Slice (thn (hl.run pins s1 σ H1 _ I1 q1) fun vl s2 ⟨l, H2, I2, pl, q2⟩ => thn (hh.run pins s2 σ H2 _ I2 q2) fun vu s3 ⟨u, H3, I3, pu, q3⟩ => thn (hst.run pins s3 σ H3 _ I3 q3) fun vs s4 ⟨o, H4, I4, ps, q4⟩ => ?_)
  obtain ⟨a, xs, c, rfl, rfl, h0, q⟩ := q4
  cases (show v = Value.ref a from r1)
  have I5 : Inv X pins σ H4 { s4 with heap := s4.heap.push { cls := .type "slice", data := .fields #[vl, vu, vs] } } := I4.kept (t' := s4.toks) fun b ob z => Heap.get?_push_of_some _ z
  show wpAny (model X.prog X.w) X.A (subscriptTail e (.Slice lo hi (some st) p3) (.ref a) (.ref s4.heap.objs.size)) (EP X pins σ Q) X.xe { s4 with heap := s4.heap.push { cls := .type "slice", data := .fields #[vl, vu, vs] } }
  rcases q with ⟨hx, q⟩ | ⟨hx, h1, hz, q⟩
  · obtain ⟨its, r, ht, hz⟩ := I5.list hx
    have hlen := r.length
    refine tail_any (ops := [.ref a, .ref s4.heap.objs.size]) ht.isList.typeIs PySem.slot_list_getitem.lookup ?_ (by with_unfolding_all rfl)
    refine wpAny_getItem_list_slice ht.isList (Heap.IsSliceOf.new _ vl vu vs) pl pu ps (fun z => h0 (Option.some.inj z)) ?_ (by rw [List.size_toArray]; omega)
    have hsz : (slicePick its.toArray l u (some c)).size ≤ sizeLine := Nat.le_trans (slicePick_size_le _ _ _ _) (by rw [List.size_toArray]; omega)
    rw [slicePick_ix, ← hlen] at hsz ⊢
    refine ⟨.ref _, _, I5.laid (t' := s4.toks) (o := .lst _) (fun b ob z => Heap.get?_push_of_some _ z) (Nat.le_refl _) ?_, rfl, q _ (I5.hok.fresh (Nat.le_refl _))⟩
    refine ⟨?_, _, 0, Paired.pickIx' r _, Heap.get?_push_size _ rfl⟩
    rw [pickIx_len hlen]
    simpa using hsz
  · obtain ⟨its, r, ht, _⟩ := I5.tuple hx
    have hlen := r.length
    refine tail_any (ops := [.ref a, .ref s4.heap.objs.size]) ht.typeIs PyProof.Rows.slot_tuple_getitem.lookup ?_ (by with_unfolding_all rfl)
    rw [hlen] at hz q
    refine getItem_tuple_st ht (Heap.IsSliceOf.new _ vl vu vs) pl pu ps h0 h1 ?_ (by rw [← pickIx_len hlen]; exact hz)
    refine ⟨.ref _, _, I5.laid (t' := s4.toks) (o := .tup _) (fun b ob z => Heap.get?_push_of_some _ z) (Nat.le_refl _) ?_, rfl, q _ (I5.hok.fresh (Nat.le_refl _))⟩
    exact ⟨hz, _, Paired.pickIx' r _, IsTup.new _ _⟩
/-! ### by data -/
def sl3D (d : D) (lo hi st : Option Int) : Option D := match st with
  | some c => if c = 0 then none else match d with
    | .lst ds => some (.lst (pickIx ds (ixL ds.length lo hi (some c))))
    | .tup ds => if c = 1 ∨ szL < (pickIx ds (ixT ds.length lo hi c)).length then none else some (.tup (pickIx ds (ixT ds.length lo hi c)))
    | _ => none
  | none => none
def sSl3 (a : LSt → Res D) (p q r : LSt → Res (Option Int)) : LSt → Res D := fun l => (a l).bind fun d l => (p l).bind fun lo l => (q l).bind fun hi l => (r l).bind fun st l => opt (sl3D d lo hi st) l
section
variable {X : Cx} {c : Ac} {W : WX} {a st : Expr} {lo hi : Option Expr} {fa : LSt → Res D} {p q r : LSt → Res (Option Int)} {p2 pos : Pos}
theorem de_sl3 (hK : X.K = c.K) (ha : DE X c W a fa) (hp : DP X c W lo p) (hq : DP X c W hi q) (hr : DP X c W (some st) r) : DE X c W (.Subscript a (.Slice lo hi (some st) p2) pos) (sSl3 fa p q r) :=
  ⟨(pe_sl3 ha.pe hp.po hq.po hr.po).imp' fun σ H Q ⟨Hf, l, R, h⟩ => run_bind PD.mo R h fun d l1 v H1 Hf1 R1 s1 r1 h1 => run_bindP PD.mo R1 h1 fun lo l2 H2 Hf2 R2 s2 h2 => run_bindP PD.mo R2 h2 fun hi l3 H3 Hf3 R3 s3 h3 => run_bindP PD.mo R3 h3 fun st l4 H4 Hf4 R4 s4 h4 => by
    have r4 := r1.mono ((s2.trans s3).trans s4)
    cases st with
    | none => exact h4.elim
    | some cc =>
      have h4 : wpR (opt (if cc = 0 then none else match d with
        | .lst ds => some (D.lst (pickIx ds (ixL ds.length lo hi (some cc))))
        | .tup ds => if cc = 1 ∨ szL < (pickIx ds (ixT ds.length lo hi cc)).length then none else some (D.tup (pickIx ds (ixT ds.length lo hi cc)))
        | _ => none) l4) (PD c σ Q Hf4) (PX c W σ Hf4) := h4
      split at h4
      · exact h4.elim
      · rename_i h0
        cases d with
        | lst ds =>
          obtain ⟨a, vs, rfl, h, t⟩ := r4
          have h4 : PD c σ Q Hf4 (.lst (pickIx ds (ixL ds.length lo hi (some cc)))) l4 := h4
          refine ⟨a, vs, cc, rfl, rfl, h0, .inl ⟨SqL.of (R4.sub _ _ h), fun p n => h4.new R4 n (RVal.lstNew (R4.free n) ?_)⟩⟩
          rw [t.length]
          exact t.pick _
        | tup ds =>
          obtain ⟨a, vs, rfl, h, t⟩ := r4
          have h4 : wpR (opt (if cc = 1 ∨ szL < (pickIx ds (ixT ds.length lo hi cc)).length then none else some (D.tup (pickIx ds (ixT ds.length lo hi cc)))) l4) (PD c σ Q Hf4) (PX c W σ Hf4) := h4
          split at h4
          · exact h4.elim
          · rename_i h1
            have h4 : PD c σ Q Hf4 (.tup (pickIx ds (ixT ds.length lo hi cc))) l4 := h4
            rw [t.length] at h1 h4
            refine ⟨a, vs, cc, rfl, rfl, h0, .inr ⟨by rw [hK]; exact sameT R4.sub h, fun z => h1 (.inl z), ?_, fun p n => h4.new R4 n (RVal.tupNew (R4.free n) (t.pick _))⟩⟩
            rw [← szL_eq, ← pickIx_len t.length]
            exact Nat.le_of_not_lt fun z => h1 (.inr z)
        | _ => exact h4.elim⟩
end
end Dx

/-! Dx.Oeq: ==, != and str of instances that have their own; such calls change no dice. -/
namespace Dx
open PySem PySem.Spec PyProof.Rows L2

/-! ### a call that is handed no dice -/
abbrev g0 : G := ⟨none, none⟩
section
variable {c : Ac} {W : WX} {Hf H Hf' H' : Hp} {σ : L2.St} {l : LSt} {g' : G}
theorem isD0 {cn : Cn} {ad : Ad} {a : Addr} (h : isD cn g0 ad a) : isT cn a := by
  rcases h with ⟨h, _⟩ | ⟨h, _⟩ | h
  · exact nomatch h
  · exact nomatch h
  · exact h
theorem dice0 {cn : Cn} {ad : Ad} {g : G} (R : DiceOk cn Hf H ad g) : DiceOk cn Hf H ad g0 := ⟨fun _ _ _ q => (nomatch q), fun _ _ q => (nomatch q), R.tb⟩
theorem REnv.pure (R : REnv c Hf σ H l) (A : Aft c.toCn c.ad g0 g' H Hf H' Hf') : REnv c Hf' σ H' l := by
  have fr : ∀ a o, H a = some o → Hf a = none → ¬ isT c.toCn a → H' a = some o ∧ Hf' a = none := fun a o h1 h2 h3 => A.frame a o h1 h2 fun z => h3 (isD0 z)
  have fr2 : ∀ a o, H a = some o → Hf a = none → ¬ isD c.toCn l.g c.ad a → H' a = some o ∧ Hf' a = none := fun a o h1 h2 h3 => fr a o h1 h2 fun z => h3 (.inr (.inr z))
  have noT : ∀ {a : Addr} {o : HO}, H a = some o → (∀ ps, o ≠ .tbl ps) → ¬ isT c.toCn a := fun {a o} e n z => R.dice.tb.ne z e n rfl
  refine ⟨R.len, fun i s hs => ?_, R.dis, A.sub, R.base.trans A.grow, fun a o h => ?_, ⟨fun x y z q => ?_, fun n fs q => ?_, A.dice.tb⟩, R.hgs⟩
  · obtain ⟨x, e, r⟩ := R.slot i s hs
    exact ⟨x, e, r.keep A.grow fun a o h1 h2 _ h4 => fr2 a o h1 h2 h4⟩
  · obtain ⟨h1, h2, h3⟩ := R.frame a o h
    obtain ⟨e1, e2⟩ := fr2 a o h1 h2 h3
    exact ⟨e1, e2, h3⟩
  · obtain ⟨h1, h2⟩ := R.dice.dc x y z q
    obtain ⟨e1, e2⟩ := fr _ _ h2 h1 (noT h2 fun ps z => nomatch z)
    exact ⟨e2, e1⟩
  · obtain ⟨q1, q2, q3, q4, us, q5, q6⟩ := R.dice.obj n fs q
    have e4 : H' c.ad.od = H c.ad.od ∧ Hf' c.ad.od = none := by
      rcases q4 with q4 | q4
      · obtain ⟨z1, z2⟩ := fr _ _ q4 q2 (noT q4 fun ps z => nomatch z)
        exact ⟨z1.trans q4.symm, z2⟩
      · obtain ⟨z1, z2⟩ := fr _ _ q4 q2 (noT q4 fun ps z => nomatch z)
        exact ⟨z1.trans q4.symm, z2⟩
    have e5 : H' c.ad.oa = H c.ad.oa ∧ Hf' c.ad.oa = none := by
      rcases q5 with ⟨q5, _⟩ | ⟨q5, _⟩
      · obtain ⟨z1, z2⟩ := fr _ _ q5 q1 (noT q5 fun ps z => nomatch z)
        exact ⟨z1.trans q5.symm, z2⟩
      · obtain ⟨z1, z2⟩ := fr _ _ q5 q1 (noT q5 fun ps z => nomatch z)
        exact ⟨z1.trans q5.symm, z2⟩
    refine ⟨e5.2, e4.2, q3, by rw [e4.1]; exact q4, us, ?_, q6.mono A.grow⟩
    rcases q5 with ⟨z1, z2⟩ | ⟨z1, z2⟩
    · exact .inl ⟨by rw [e5.1]; exact z1, z2⟩
    · exact .inr ⟨by rw [e5.1]; exact z1, by rw [e4.1]; exact z2⟩
/-- what such a call answers -/
def pureD (m : Fm) (ds : List D) : Option D := match m ds g0 with
  | .ok (.v d) _ => some d
  | _ => none
theorem spF_pure {m : Fm} {ds : List D} {vs : List V} {d : D} {Q : VK} (R : REnv c Hf σ H l) (r : RVals c.toCn c.ad Hf ds vs) (e : pureD m ds = some d) (q : PD c σ Q Hf d l) : spF c.toCn m vs H Q fun _ _ _ => False := by
  refine ⟨Hf, c.ad, ds, g0, R.sub, dice0 R.dice, r, ?_⟩
  unfold pureD at e
  split at e
  · rename_i d' g' e2
    cases e
    rw [e2]
    exact fun v H' Hf' A rv => q v H' Hf' (R.pure A) A.grow rv
  · cases e
end
/-! ### types -/
theorem sub_kind {K : PySem.W.Frag} {C : Addr} : ∀ n ∈ [0, 1, 2, 3, 4, 5, 6], PySem.W.subIn K (.type (kindN n)) (.ref C) = some false := by
  intro n hn
  have all : ∀ n ∈ [0, 1, 2, 3, 4, 5, 6], (fastBuiltinMro (kindN n)).map (fun l => l.all fun v => match v with
    | .type _ => true
    | _ => false) = some true := by decide +kernel
  have h := all n hn
  cases e : fastBuiltinMro (kindN n) with
  | none =>
    rw [e] at h
    cases h
  | some l =>
    rw [e] at h
    have h2 : (l.all fun v => match v with
      | .type _ => true
      | _ => false) = true := Option.some.inj h
    show (fastBuiltinMro (kindN n)).map (·.contains (.ref C)) = some false
    rw [e]
    show some (l.contains (.ref C)) = some false
    refine congrArg some (Bool.eq_false_iff.mpr fun z => ?_)
    have z1 := List.contains_iff_mem.mp z
    have z2 := List.all_eq_true.mp h2 _ z1
    exact nomatch z2
section
variable {X : Cx} {pins : List (Addr × Obj)} {σ : L2.St} {H Hf : Hp} {s : Shared} {cn : Cn} {ad : Ad}
theorem looks_kind {M : Model} {d : D} {n : Nat} {v : V} {u : Value} (hK : X.K = cn.K) (I : Inv X pins σ H s) (sub : Same Hf H) (h : kindD d = some n) (r : RVal cn ad Hf d v) (rv : RelV v u) : PySem.W.Looks M s.heap (typeOf u) (.type (kindN n)) := by
  have ref : ∀ {a : Addr} {T : String}, (∃ o, s.heap.get? a = some o ∧ o.cls = .type T) → PySem.W.Looks M s.heap (typeOf (.ref a)) (.type T) := fun {a T} ⟨o, h1, h2⟩ A Q E s' k q => wpAny_typeOf (show s'.TypeIs (.ref a) T from ⟨o, k _ _ h1, h2⟩) q
  cases d <;> simp only [kindD, reduceCtorEq, Option.some.injEq] at h <;> subst h
  · cases (show v = .non from r); cases (show u = .none from rv)
    exact fun A Q E s' k q => wpAny_typeOf (show s'.TypeIs .none "NoneType" from rfl) q
  · cases (show v = .bl _ from r); cases (show u = .bool _ from rv)
    exact fun A Q E s' k q => wpAny_typeOf (T := "bool") rfl q
  · cases (show v = .int _ from r); obtain ⟨t, rfl⟩ := rv
    exact fun A Q E s' k q => wpAny_typeOf (typeIs_int s' _ t) q
  · cases (show v = .str _ from r); obtain ⟨t, rfl⟩ := rv
    exact fun A Q E s' k q => wpAny_typeOf (typeIs_str s' _ t) q
  · obtain ⟨a, vs, rfl, h1, _⟩ := r
    cases (show u = .ref a from rv)
    obtain ⟨its, _, ⟨o, h2, h3, _⟩, _⟩ := I.tuple (show SqT X.K H a vs by rw [hK]; exact sameT sub h1)
    exact ref ⟨o, h2, h3⟩
  · obtain ⟨a, vs, rfl, h1, _⟩ := r
    cases (show u = .ref a from rv)
    obtain ⟨its, _, ⟨o, m, h2, h3, _⟩, _⟩ := I.list (SqL.of (K := X.K) (sub _ _ h1))
    exact ref ⟨o, h2, h3⟩
  · obtain ⟨a, od, vs, rfl, h1, _⟩ := r
    cases (show u = .ref a from rv)
    have z : ObjOk X.prog X.w H s.heap a (.frz od _) := I.hok a _ (sub _ _ h1)
    obtain ⟨_, _, _, _, _, o, _, _, h2, h3, _⟩ := z
    exact ref ⟨o, h2, h3.1⟩
  · obtain ⟨a, od, vs, rfl, h1, _⟩ := r
    cases (show u = .ref a from rv)
    have z : ObjOk X.prog X.w H s.heap a (.frz od _) := I.hok a _ (sub _ _ h1)
    obtain ⟨_, _, _, _, _, o, _, _, h2, h3, _⟩ := z
    exact ref ⟨o, h2, h3.1⟩
end
/-! ### x != y by object.__ne__ and an own __eq__ -/
section
variable {prog : Program} {w : World} {A : Around} {E : Value → Shared → Prop} {s : Shared} {K : PySem.W.Frag} {x C L f : Addr} {h₀ : Heap} {m : Str → Option Value} {ox : Obj} {od : Option Obj} {b tb : Value}
theorem objNe_own {Q : Fin → Shared → Prop} (hu : A.units < cLine) (X : K.In s.heap) (I : PySem.W.InstAt s.heap x ox C od) (he : PySem.W.findIn K (.ref C) "__eq__" = some (some (.ref f))) (hf : PySem.W.isFn K (.ref f) = true)
    (h : wpAny (model prog w) A (call (.ref f) [.ref x, b]) (fun v s' => ∃ k, v = .bool k ∧ Q (.done (.ret (.bool (!k)))) s') E s) : wpAny (model prog w) A (Builtin.«object.__ne__» ⟨[.ref x, b], []⟩) Q E s := by
  unfold Builtin.«object.__ne__»
  repeat (first
    | with_reducible refine wpAny_cRoomFor hu ?_
    | (refine wpAny_bind (m := callSpecialIfBound? (.ref x) (Str.ofString "__eq__") [b]) (PySem.W.ifBound_K X I he hf (wpAny_mono h (fun v s' hv => by
        obtain ⟨k, rfl, q⟩ := hv
        repeat (first | exact q | exact wpAny_pure q | (refine wpAny_bind (m := truthy (.bool _)) (wpAny_truthy_bool ?_)) | wp_step)) fun _ _ e => e)))
    | wp_step)
theorem ne_own {Q : Value → Shared → Prop} (hu : A.units + 1 < cLine) (X : K.In s.heap) (I : PySem.W.InstAt s.heap x ox C od) (hb : PySem.W.Looks (model prog w) s.heap (typeOf b) tb) (hn : PySem.W.notFirst K C tb = true)
    (hs : PySem.W.findIn K (.ref C) "__ne__" = some (some (.builtin "object.__ne__"))) (hm : PySem.W.mroIn K C (.type "object") = some true) (he : PySem.W.findIn K (.ref C) "__eq__" = some (some (.ref f))) (hf : PySem.W.isFn K (.ref f) = true)
    (h : wpAny (model prog w) A.in1 (call (.ref f) [.ref x, b]) (fun v s' => ∃ k, v = .bool k ∧ Q (.bool (!k)) s') E s) : wpAny (model prog w) A (richCompare .NotEq (.ref x) b) Q E s := by
  have one : wpAny (model prog w) A (tryCompare (.ref x) "__ne__" b) (fun r s' => ∃ k, r = some (.bool (!k)) ∧ Q (.bool (!k)) s') E s := by
    unfold tryCompare
    refine wpAny_bind ?_
    simp only [callSpecialIfBound?, bindSpecialIfBound?]
    refine wpAny_holding (wpAny_bind (wpAny_bind (wpAny_bind (I.type.here ((PySem.W.looks_findIn X hs).here ?_)))))
    refine wpAny_bind (wpAny_askSetting (wpAny_ite ?_))
    have fin : wpAny (model prog w) A (call (.builtin "object.__ne__") ([.ref x] ++ [b]) >>= fun v => pure (some v)) (fun o s₁ => wpAny (model prog w) A (match o with
        | some .notImplemented | none => pure none
        | some r => pure (some r)) (fun r s' => ∃ k, r = some (.bool (!k)) ∧ Q (.bool (!k)) s') E s₁) E s := by
      refine wpAny_bind (wpAny_call (codeAny_call_builtin F.cmp_object.ne.plain F.cmpEntry_ne (PySem.W.check_slot F.cmpKind_ne F.cmpSplit_ne (I.type.andThen (PySem.W.looks_mroIn X hm)) (F.cmpArgs_ne _ _)
        (objNe_own (A := A.in1) (by show A.units + 1 < cLine; exact hu) X I he hf (wpAny_mono h (fun v s' hv => ?_) fun _ _ e => e)))))
      obtain ⟨k, rfl, q⟩ := hv
      first
        | exact ⟨k, rfl, wpAny_pure (wpAny_pure ⟨k, rfl, q⟩)⟩
        | exact ⟨k, rfl, _, rfl, wpAny_pure (wpAny_pure ⟨k, rfl, q⟩)⟩
        | exact ⟨_, rfl, wpAny_pure (wpAny_pure ⟨k, rfl, q⟩)⟩
    split
    · exact wpAny_bind (wpAny_of_eq (F.cmp_object.ne.bind _) (wpAny_pure (by exact fin)))
    · exact wpAny_tryCatch (wpAny_bind (wpAny_of_eq (F.cmp_object.ne.bind _) (wpAny_pure (by exact fin))))
  simp only [richCompare, cmpInfo_NotEq, oneThing_ref]
  refine wpAny_holding (wpAny_bind (wpAny_cRoomFor (by omega) ?_))
  refine wpAny_bind (I.type.here (wpAny_bind (hb.here ?_)))
  split
  · rename_i q
    have e : PySem.W.subIn K tb (.ref C) = some false := by
      rcases Bool.or_eq_true_iff.mp hn with e | e
      · rw [beq_iff_eq.mp e] at q
        simp at q
      · exact beq_iff_eq.mp e
    refine wpAny_bind ((PySem.W.looks_subIn X e).here ?_)
    simp only [Bool.false_eq_true, if_false]
    refine wpAny_bind (wpAny_mono one (fun r s' z => ?_) fun _ _ e => e)
    obtain ⟨k, rfl, hq⟩ := z
    exact wpAny_pure hq
  · refine wpAny_bind (wpAny_pure ?_)
    simp only [Bool.false_eq_true, if_false]
    refine wpAny_bind (wpAny_mono one (fun r s' z => ?_) fun _ _ e => e)
    obtain ⟨k, rfl, hq⟩ := z
    exact wpAny_pure hq
end
/-- classes with an own __eq__ and no own __ne__ -/
structure OeqOk (P : Program) (w : World) (mg : Str → Option Value) (base : Heap) (cn : Cn) (k : Nat) (te : Nat → Option Fm) (tk : Nat → Bool) : Prop where
  ok : ∀ n m, te n = some m → PySem.W.mroIn cn.K (cn.cA n) (.type "object") = some true ∧ PySem.W.findIn cn.K (.ref (cn.cA n)) "__ne__" = some (some (.builtin "object.__ne__")) ∧ (∀ j, tk j = true → PySem.W.notFirst cn.K (cn.cA n) (.ref (cn.cA j)) = true) ∧
    ∃ g, PySem.W.findIn cn.K (.ref (cn.cA n)) "__eq__" = some (some (.ref g)) ∧ PySem.W.isFn cn.K (.ref g) = true ∧ FnR P w cn.K mg base (L2.CX P w) k g (spF cn m)
def rOwnEq (cn : Cn) (ad : Ad) (te : Nat → Option Fm) (tk : Nat → Bool) (neg : Bool) : R2 := fun x y H Q => ∃ (Hf : Hp) (n : Nat) (m : Fm) (fs : List D) (e : D), te n = some m ∧ Same Hf H ∧ RVal cn ad Hf (.ins n fs) x ∧ RVal cn ad Hf e y ∧ ((kindD e).isSome = true ∨ ∃ j gs, e = .ins j gs ∧ tk j = true) ∧
  spF cn m [x, y] H (fun v H' => ∃ b, v = .bl b ∧ Q (.bl (b != neg)) H') fun _ _ _ => False
section
variable {X : Cx} {c : Ac} {te : Nat → Option Fm} {tk : Nat → Bool} {k : Nat}
theorem own_setup {pins : List (Addr × Obj)} {σ : L2.St} {H Hf : Hp} {s : Shared} {cn : Cn} {ad : Ad} {n j : Nat} {m : Fm} {fs : List D} {e : D} {x y : V} {v u : Value} (hK : X.K = cn.K) (ok : OeqOk X.prog X.w X.mg X.base cn k te tk) (I : Inv X pins σ H s) (et : te n = some m) (sub : Same Hf H) (rx : RVal cn ad Hf (.ins n fs) x)
    (ry : RVal cn ad Hf e y) (hk : (kindD e).isSome = true ∨ ∃ j gs, e = .ins j gs ∧ tk j = true) (rv : RelV x v) (ru : RelV y u) : ∃ a ox od tb, x = .ref a ∧ v = .ref a ∧ PySem.W.InstAt s.heap a ox (cn.cA n) od ∧ PySem.W.Looks (model X.prog X.w) s.heap (typeOf u) tb ∧ PySem.W.notFirst cn.K (cn.cA n) tb = true := by
  obtain ⟨a, dx, vs, rfl, h1, h2, _⟩ := rx
  cases (show v = Value.ref a from rv)
  obtain ⟨sl, od, _, J, _⟩ := SlX.slt_inst I (.inr ⟨sub _ _ h1, sub _ _ h2⟩ : SlX.Slt H a (cn.cA n) dx (vs.map some))
  refine ⟨a, { PySem.W.instObj (cn.cA n) dx with slots := sl }, some od, ?_⟩
  rcases hk with hk | ⟨j, gs, rfl, hj⟩
  · obtain ⟨q, hq⟩ := Option.isSome_iff_exists.mp hk
    refine ⟨_, rfl, rfl, J, looks_kind hK I sub hq ry ru, ?_⟩
    unfold PySem.W.notFirst
    rw [sub_kind q (kind_lt hq)]
    simp
  · obtain ⟨b, dy, ws, rfl, h3, h4, _⟩ := ry
    cases (show u = Value.ref b from ru)
    obtain ⟨sl', od', _, J', _⟩ := SlX.slt_inst I (.inr ⟨sub _ _ h3, sub _ _ h4⟩ : SlX.Slt H b (cn.cA j) dy (ws.map some))
    exact ⟨_, rfl, rfl, J, J'.type, (ok.ok n m et).2.2.1 j hj⟩
theorem op_eqO {cn : Cn} {ad : Ad} (hK : X.K = cn.K) (ok : OeqOk X.prog X.w X.mg X.base cn k te tk) (hr : Room k X.A) : OpR X (compareOp .Eq) (rOwnEq cn ad te tk false) := by
  intro pins s σ H x y v u Q I rv ru h
  obtain ⟨Hf, n, m, fs, e, et, sub, rx, ry, hk, q⟩ := h
  obtain ⟨a, ox, od, tb, rfl, rfl, J, hb, hn⟩ := own_setup (j := 0) hK ok I et sub rx ry hk rv ru
  obtain ⟨_, _, _, g, h1, h2, F⟩ := ok.ok n m et
  rw [← hK] at F h1 h2 hn
  obtain ⟨mm, hF⟩ := I.fr
  refine PySem.W.cmp_K (op := .Eq) hr.units0 hF I.ok.mod.kin J hb hn h1 h2 (wpAny_mono (wpAny_call (codeAny_mono (F X.A X.stack s H [.ref a, u] [.ref a, y] _ _ hr I.env0 (.cons rfl (.cons ru .nil)) q) (R' := fun r s' => match r with
    | .ok (.ret v) => EP X pins σ (fun v H' => ∃ b, v = .bl b ∧ Q (.bl (b != false)) H') v s'
    | .ok _ => False
    | .error e => X.xe e s') fun r s' z => ?_)) (fun w s' z => ?_) fun _ _ z => z)
  · match r, z with
    | .error e, z => exact (cx_false z).elim
    | .ok (.ret u), z => exact I.after z
    | .ok .next, z => exact z.elim
    | .ok .brk, z => exact z.elim
    | .ok .cont, z => exact z.elim
  · obtain ⟨z', H', I', rz, b, rfl, qb⟩ := z
    cases (show w = .bool b from rz)
    show EP X pins σ Q (.bool b) s'
    exact ⟨.bl b, H', I', rfl, by simpa using qb⟩
theorem op_neO {cn : Cn} {ad : Ad} (hK : X.K = cn.K) (ok : OeqOk X.prog X.w X.mg X.base cn k te tk) (hr : Room (k + 1) X.A) : OpR X (compareOp .NotEq) (rOwnEq cn ad te tk true) := by
  intro pins s σ H x y v u Q I rv ru h
  obtain ⟨Hf, n, m, fs, e, et, sub, rx, ry, hk, q⟩ := h
  obtain ⟨a, ox, od, tb, rfl, rfl, J, hb, hn⟩ := own_setup (j := 0) hK ok I et sub rx ry hk rv ru
  obtain ⟨h3, h4, _, g, h1, h2, F⟩ := ok.ok n m et
  rw [← hK] at F h1 h2 hn h3 h4
  show wpAny _ _ (richCompare .NotEq (.ref a) u) _ _ s
  refine ne_own (by have := hr.units; omega) I.kIn J hb hn h4 h3 h1 h2 (wpAny_mono (wpAny_call (codeAny_mono (F X.A.in1 X.stack s H [.ref a, u] [.ref a, y] _ _ hr.in1 I.env0.in1 (.cons rfl (.cons ru .nil)) q) (R' := fun r s' => match r with
    | .ok (.ret v) => EP X pins σ (fun v H' => ∃ b, v = .bl b ∧ Q (.bl (b != true)) H') v s'
    | .ok _ => False
    | .error e => X.xe e s') fun r s' z => ?_)) (fun w s' z => ?_) fun _ _ z => z)
  · match r, z with
    | .error e, z => exact (cx_false z).elim
    | .ok (.ret u), z => exact I.after z
    | .ok .next, z => exact z.elim
    | .ok .brk, z => exact z.elim
    | .ok .cont, z => exact z.elim
  · obtain ⟨z', H', I', rz, b, rfl, qb⟩ := z
    cases (show w = .bool b from rz)
    refine ⟨b, rfl, .bl (!b), H', I', rfl, ?_⟩
    cases b <;> simpa using qb
/-- an answer, by data -/
def blO : Option D → Option Bool
  | some (.bl b) => some b
  | _ => none
def knownD (tk : Nat → Bool) : D → Bool
  | .ins j _ => tk j
  | e => (kindD e).isSome
theorem knownD_of {tk : Nat → Bool} {e : D} (h : knownD tk e = true) : (kindD e).isSome = true ∨ ∃ j gs, e = .ins j gs ∧ tk j = true := by
  cases e <;> first | exact .inr ⟨_, _, rfl, h⟩ | exact .inl h
def eqO (te : Nat → Option Fm) (tk : Nat → Bool) (neg : Bool) (d e : D) : Option D := match d with
  | .ins n fs => (match te n with
    | some m => if knownD tk e = true then (blO (pureD m [.ins n fs, e])).map fun b => .bl (b != neg) else none
    | none => none)
  | _ => none
theorem ok_eqO {neg : Bool} : BinOk c (rOwnEq c.toCn c.ad te tk neg) (eqO te tk neg) := by
  intro Hf H σ l d1 d2 d x y Q R r1 r2 e q
  unfold eqO at e
  cases d1 with
  | ins n fs =>
    dsimp only at e
    cases et : te n with
    | none => rw [et] at e; cases e
    | some m =>
      rw [et] at e
      dsimp only at e
      by_cases hc : knownD tk d2 = true
      · rw [if_pos hc] at e
        obtain ⟨b, e1, e2⟩ := Option.map_eq_some_iff.mp e
        cases e2
        have hp : pureD m [.ins n fs, d2] = some (.bl b) := by
          cases z : pureD m [.ins n fs, d2] with
          | none => rw [z] at e1; cases e1
          | some w =>
            rw [z] at e1
            cases w <;> first | cases e1; rfl | cases e1
        refine ⟨Hf, n, m, fs, d2, et, R.sub, r1, r2, ?_, spF_pure R (.cons r1 (.cons r2 .nil)) hp ?_⟩
        · exact knownD_of hc
        · intro v H' Hf' R' s' rv
          cases (show v = .bl b from rv)
          exact ⟨b, rfl, q _ _ _ R' s' rfl⟩
      · rw [if_neg hc] at e
        cases e
  | _ => cases e
/-- == where an instance may stand at the left -/
def eqY (te : Nat → Option Fm) (tk : Nat → Bool) (d e : D) : Option D := match d with
  | .ins _ _ => eqO te tk false d e
  | _ => eqX d e
def neY (te : Nat → Option Fm) (tk : Nat → Bool) (d e : D) : Option D := match d with
  | .ins _ _ => eqO te tk true d e
  | _ => neD d e
end
theorem BinOk.left {c : Ac} {r r' : R2} {g g' h : D → D → Option D} (ok : BinOk c r g) (ok' : BinOk c r' g') (e : ∀ d1 d2 d, h d1 d2 = some d → g d1 d2 = some d ∨ g' d1 d2 = some d) : BinOk c (fun x y H Q => r x y H Q ∨ r' x y H Q) h := fun Hf H σ l d1 d2 d x y Q R r1 r2 z q =>
  (e d1 d2 d z).elim (fun z => .inl (ok Hf H σ l d1 d2 d x y Q R r1 r2 z q)) fun z => .inr (ok' Hf H σ l d1 d2 d x y Q R r1 r2 z q)
section
variable {X : Cx} {c : Ac} {W : WX} {cn : Cn} {k j : Nat} {a b : Expr} {pos : Pos} {fa fb : LSt → Res D} {te : Nat → Option Fm} {tk : Nat → Bool}
theorem eqY_split {d1 d2 d : D} (h : eqY te tk d1 d2 = some d) : eqX d1 d2 = some d ∨ eqO te tk false d1 d2 = some d := by
  cases d1 <;> first | exact .inl h | exact .inr h
theorem neY_split {d1 d2 d : D} (h : neY te tk d1 d2 = some d) : neD d1 d2 = some d ∨ eqO te tk true d1 d2 = some d := by
  cases d1 <;> first | exact .inl h | exact .inr h
theorem op_eqY (Z : Ctx X c W cn k) (T : OeqOk X.prog X.w X.mg X.base cn j te tk) (hj : j ≤ k) : OpR X (compareOp .Eq) (fun x y H Q => rOr (rEqD X.K) (rDq c.toCn c.ad) x y H Q ∨ rOwnEq c.toCn c.ad te tk false x y H Q) :=
  L2.OpR.or ((op_eqD Z.hr.units).or (op_dq Z.hK Z.hr.units)) (op_eqO Z.hK (by rw [Z.hc]; exact T) (Z.hr.mono hj))
theorem op_neY (Z : Ctx X c W cn k) (T : OeqOk X.prog X.w X.mg X.base cn j te tk) (hj : j + 1 ≤ k) : OpR X (compareOp .NotEq) (fun x y H Q => rNeD X.K x y H Q ∨ rOwnEq c.toCn c.ad te tk true x y H Q) :=
  L2.OpR.or (op_neD Z.hr.units) (op_neO Z.hK (by rw [Z.hc]; exact T) (Z.hr.mono hj))
theorem e_eqY (Z : Ctx X c W cn k) (T : OeqOk X.prog X.w X.mg X.base cn j te tk) (hj : j + 1 ≤ k) (ha : DE X c W a fa) (hb : DE X c W b fb) : DE X c W (.Compare a [.Eq] [b] pos) (sBin (eqY te tk) fa fb) :=
  de_cmp (op_eqY Z T (by omega)) (BinOk.left (Z.hK ▸ ok_eqX) ok_eqO fun _ _ _ => eqY_split) ha hb (nomark _)
theorem t_eqY (Z : Ctx X c W cn k) (T : OeqOk X.prog X.w X.mg X.base cn j te tk) (hj : j + 1 ≤ k) (ha : DE X c W a fa) (hb : DE X c W b fb) : DT X c W (.Compare a [.Eq] [b] pos) (sTst (sBin (eqY te tk) fa fb)) :=
  dt_cmp (op_eqY Z T (by omega)) (BinOk.left (Z.hK ▸ ok_eqX) ok_eqO fun _ _ _ => eqY_split) ha hb (nomark _)
theorem e_neY (Z : Ctx X c W cn k) (T : OeqOk X.prog X.w X.mg X.base cn j te tk) (hj : j + 1 ≤ k) (ha : DE X c W a fa) (hb : DE X c W b fb) : DE X c W (.Compare a [.NotEq] [b] pos) (sBin (neY te tk) fa fb) :=
  de_cmp (op_neY Z T hj) (BinOk.left (Z.hK ▸ ok_ne) ok_eqO fun _ _ _ => neY_split) ha hb (nomark _)
theorem t_neY (Z : Ctx X c W cn k) (T : OeqOk X.prog X.w X.mg X.base cn j te tk) (hj : j + 1 ≤ k) (ha : DE X c W a fa) (hb : DE X c W b fb) : DT X c W (.Compare a [.NotEq] [b] pos) (sTst (sBin (neY te tk) fa fb)) :=
  dt_cmp (op_neY Z T hj) (BinOk.left (Z.hK ▸ ok_ne) ok_eqO fun _ _ _ => neY_split) ha hb (nomark _)
theorem e_notN (ha : DE X c W a fa) (hb : DE X c W b fb) : DE X c W (.Compare a [.IsNot] [b] pos) (sBin notND fa fb) := de_cmp op_notN ok_notN ha hb (nomark _)
theorem t_notN (ha : DE X c W a fa) (hb : DE X c W b fb) : DT X c W (.Compare a [.IsNot] [b] pos) (sTst (sBin notND fa fb)) := dt_cmp op_notN ok_notN ha hb (nomark _)
end
end Dx

/-! Dx.Cl2: cls(..), classmethods without keywords, keywords for defaults, str, ranges. -/
namespace Dx
open PySem PySem.Spec PyProof.Rows L2

/-! ### no keywords, as keywords -/
theorem FnR.toK {P : Program} {w : World} {K : PySem.W.Frag} {mg : Str → Option Value} {base : Heap} {CX : CXT} {k n : Nat} {f : Addr} {sp : Sp} (F : FnR P w K mg base CX k f sp) : FnRK P w K mg base CX k f n [] sp := by
  intro A outer s H us ws vs zs Q E hr e0 r1 r2 l1 l2 h
  cases r2 with
  | nil =>
    rw [List.append_nil] at h
    exact F A outer s H us vs Q E hr e0 r1 h
  | cons _ _ => cases l2
/-- keywords name the last parameters, which have defaults -/
theorem funD_kb1 {K : PySem.W.Frag} {x qual : Str} {params : Arguments} {body : List Stmt} {scope : Scope} {dvs : List V} {kws : List (Str × V)} {f : Addr} {fd : FuncData} {ps : List Str} (F : FunD K x qual params body scope dvs kws f fd) (n : Nat) (ks : List Str) (hd : dvs ≠ [])
    (h : ∀ (T : Addr) (kV doc pm : Value) (an : Option Addr) (cdv ct : Value) (us its ws : List Value), us.length = n → its.length = dvs.length → ws.length = ks.length →
      ∃ k, bindArgs (PySem.W.fnOf x qual params body scope (.ref T) kV doc pm an cdv ct) ⟨us, ks.zip ws⟩ = seqItems? (.ref T) >>= k ∧ k (some its.toArray) = pure (ps.zip (us ++ ws))) :
    KBn K fd ps n ks (fun us ws => us ++ ws) (fun vs zs => vs ++ zs) := by
  obtain ⟨oc, od, dV, kV, doc, pm, an, cdv, ct, osl, rfl, lk, hcd, hD, hK⟩ := F.ex
  rcases hD with ⟨e, _⟩ | ⟨_, T, o, its, m, rfl, lT, oT, rT⟩
  · exact absurd e hd
  · refine ⟨fun s us ws X l1 l2 => ?_, fun r1 r2 => r1.append r2⟩
    obtain ⟨k, e1, e2⟩ := h T kV doc pm an cdv ct us its ws l1 rT.length.symm l2
    refine BindsTo.of_looks fun M => ?_
    rw [e1]
    exact looks_items X lT oT (.of_pure e2)
/-! ### cls(..), cls a parameter that holds the class -/
def holdsC (l : LSt) (i n : Nat) : Bool := match l.sl[i]? with
  | some (.v (.glo j)) => j == n
  | _ => false
def sCallC (i cl n j : Nat) (m : Fm) (fa fk : LSt → Res (List D)) : LSt → Res D := fun l => if holdsC l i cl = true then sCallK n j m fa fk l else .bad
section
variable {X : Cx} {c : Ac} {W : WX} {e : Expr} {es : List Expr} {kws : List Keyword} {pos p : Pos} {fa fk : LSt → Res (List D)} {m mi : Fm} {k n i cl : Nat} {f : Addr} {x : Str} {ks : List Str}
theorem de_makeC (M : Mk X.K (c.cA cl) f) (gc : c.gA cl = c.cA cl) (F : FnRK X.prog X.w X.K X.mg X.base (L2.CX X.prog X.w) k f (n + 1) ks (spI c.toCn cl mi)) (hr : Room (k + 1) X.A) (tk : Takes X W) (pv : PE X (.Name x p) (tVar i))
    (ha : DA X c W (e :: es) fa) (hkw : DK X c W kws fk) (he : starEach (e :: es) X.env = (false, eval e X.env) :: starEach es X.env := by rfl)
    (hall : (backToKw pos (keywordEach kws X.env)).all (·.1.isSome) = true := by rfl) (hks : (backToKw pos (keywordEach kws X.env)).filterMap (·.1) = ks := by rfl)
    (hpl : ((backTo pos (starEach (e :: es) X.env)).any (·.1) || (backToKw pos (keywordEach kws X.env)).any (·.1.isNone)) = false := by rfl) :
    DE X c W (.Call (.Name x p) (e :: es) kws pos) (sCallC i cl n ks.length (mkC cl mi) fa fk) := by
  refine ⟨⟨fun pins s σ H Q I h => ?_⟩⟩
  have hq : σ[i]? = some (some (.ref (c.cA cl))) ∧ tD c W (sCallK n ks.length (mkC cl mi) fa fk) σ H Q := by
    obtain ⟨Hf, l, R, h⟩ := h
    unfold sCallC at h
    by_cases hh : holdsC l i cl = true
    · rw [if_pos hh] at h
      refine ⟨?_, Hf, l, R, h⟩
      unfold holdsC at hh
      split at hh
      · rename_i j e
        obtain ⟨v, e1, e2⟩ := R.val e
        rw [eq_of_beq hh] at e2
        rw [e1, show v = V.ref (c.gA cl) from e2, gc]
      · cases hh
    · rw [if_neg hh] at h
      exact h.elim
  obtain ⟨h1, h2⟩ := hq
  refine wpAny_Call_Name_kw (thn (pv.run pins s σ H (fun v H' => v = .ref (c.cA cl) ∧ H' = H) I ⟨_, h1, rfl, rfl⟩) fun u s' ⟨v, H', I', rv, ev, eh⟩ => ?_)
  subst ev eh
  cases (show u = Value.ref (c.cA cl) from rv)
  refine PySem.W.callWith_KW (h₀ := X.base) I'.ok.mod.kin M.kp hall (thn (ha.pa.run pos pins s' σ H' _ I' (mkw_run h2)) fun us s1 ⟨vs, H1, I1, r, q⟩ => thn (hkw.pk.run pos pins s1 σ H1 _ I1 q) fun ws s2 ⟨zs, H2, I2, rz, l1, l2, q2⟩ => ⟨I2.kIn, ?_⟩) hpl he
  rw [hks]
  have hq := q2 (s2.heap.objs.size + 1) s2.heap.objs.size (I2.hok.fresh (Nat.le_succ _)) (I2.hok.fresh (Nat.le_refl _)) (Nat.ne_of_lt (Nat.lt_succ_self _))
  have J := Inv.made (C := c.cA cl) I2
  have r1 : Vals (V.ref (s2.heap.objs.size + 1) :: vs) (Value.ref (s2.heap.objs.size + 1) :: us) := .cons rfl r
  refine wpAny_call (make_map (f := f) I2.kIn M.makes M.init (beq_iff_eq.mp M.fn) (codeAny_mono (F _ X.stack _ _ _ ws _ zs _ _ (hr.make (c.cA cl) us (ks.zip ws)) (J.env0.make (c.cA cl) us (ks.zip ws)) r1 rz (congrArg Nat.succ l1) l2 hq) fun r s' hq' => ?_))
  cases r with
  | error e => exact passAt tk σ pins _ _ e s' J hq'
  | ok fl =>
    cases fl with
    | ret u =>
      obtain ⟨v, H', J3, rv, ev, q3⟩ := J.after hq'
      subst ev
      exact ⟨rv, V.ref (s2.heap.objs.size + 1), H', J3, rfl, q3⟩
    | next => exact hq'.elim
    | brk => exact hq'.elim
    | cont => exact hq'.elim
/-- the class itself, made by cls(..) -/
structure MkrC (P : Program) (w : World) (K : PySem.W.Frag) (mg : Str → Option Value) (base : Heap) (cn : Cn) (k n : Nat) (ks : List Str) (cl : Nat) (m : Fm) : Prop where
  gc : cn.gA cl = cn.cA cl
  ex : ∃ f, Mk K (cn.cA cl) f ∧ FnRK P w K mg base (L2.CX P w) k f (n + 1) ks (spI cn cl m)
theorem e_makeC {cn : Cn} {j : Nat} (Z : Ctx X c W cn k) (C : MkrC X.prog X.w X.K X.mg X.base cn j n ks cl m) (hj : j + 1 ≤ k) (pv : PE X (.Name x p) (tVar i)) (ha : DA X c W (e :: es) fa) (hkw : DK X c W kws fk)
    (he : starEach (e :: es) X.env = (false, eval e X.env) :: starEach es X.env := by rfl) (hall : (backToKw pos (keywordEach kws X.env)).all (·.1.isSome) = true := by rfl) (hks : (backToKw pos (keywordEach kws X.env)).filterMap (·.1) = ks := by rfl)
    (hpl : ((backTo pos (starEach (e :: es) X.env)).any (·.1) || (backToKw pos (keywordEach kws X.env)).any (·.1.isNone)) = false := by rfl) : DE X c W (.Call (.Name x p) (e :: es) kws pos) (sCallC i cl n ks.length (mkC cl m) fa fk) := by
  obtain ⟨f, M, F⟩ := C.ex
  have gc := C.gc
  rw [← Z.hc] at F M gc
  exact de_makeC M gc F (Z.hr.mono hj) Z.tk pv ha hkw he hall hks hpl
end
/-! ### str(x) -/
structure StrOk (P : Program) (w : World) (mg : Str → Option Value) (base : Heap) (cn : Cn) (k : Nat) (ts : Nat → Option Fm) : Prop where
  ok : ∀ n m, ts n = some m → ∃ g, PySem.W.findIn cn.K (.ref (cn.cA n)) "__str__" = some (some (.ref g)) ∧ PySem.W.isFn cn.K (.ref g) = true ∧ FnR P w cn.K mg base (L2.CX P w) k g (spF cn m)
def tst0 : Nat → Option Fm := fun _ => none
theorem strOk0 {P : Program} {w : World} {mg : Str → Option Value} {base : Heap} {cn : Cn} : StrOk P w mg base cn 0 tst0 := ⟨fun n m e => by cases e⟩
def rStrOwn (cn : Cn) (ad : Ad) (ts : Nat → Option Fm) : List V → Hp → VK → Prop := fun xs H Q => ∃ (Hf : Hp) (n : Nat) (m : Fm) (fs : List D) (x : V), xs = [x] ∧ ts n = some m ∧ Same Hf H ∧ RVal cn ad Hf (.ins n fs) x ∧ spF cn m [x] H (fun v H' => ∃ z, v = .str z ∧ Q (.str z) H') fun _ _ _ => False
section
variable {X : Cx} {c : Ac} {ts : Nat → Option Fm} {k : Nat}
theorem cr_strOwn {cn : Cn} {ad : Ad} (hK : X.K = cn.K) (ok : StrOk X.prog X.w X.mg X.base cn k ts) (hr : Room (k + 2) X.A) : CallR X (.type "str") (rStrOwn cn ad ts) := by
  intro pins s σ H xs us Q I r h
  obtain ⟨Hf, n, m, fs, x, rfl, et, sub, rx, q⟩ := h
  obtain ⟨u, rfl, ru⟩ := r.one
  obtain ⟨a, dx, vs, rfl, h1, h2, _⟩ := rx
  cases (show u = Value.ref a from ru)
  obtain ⟨sl, od, _, J, _⟩ := SlX.slt_inst I (.inr ⟨sub _ _ h1, sub _ _ h2⟩ : SlX.Slt H a (cn.cA n) dx (vs.map some))
  obtain ⟨g, f1, f2, F⟩ := ok.ok n m et
  rw [← hK] at F f1 f2
  have hr1 : Room (k + 1) X.A.in1 := Room.in1 (k := k + 1) hr
  have hr2 : Room k X.A.in1.in1 := hr1.in1
  refine PySem.W.kso_call hr2.units0 I.kIn J f1 f2 (wpAny_mono (wpAny_call (codeAny_mono (F X.A.in1.in1 X.stack s H [.ref a] [.ref a] _ _ hr2 I.env0.in1.in1 (.cons rfl .nil) q) (R' := fun r s' => match r with
    | .ok (.ret v) => EP X pins σ (fun v H' => ∃ z, v = .str z ∧ Q (.str z) H') v s'
    | .ok _ => False
    | .error e => X.xe e s') fun r s' z => ?_)) (fun w s' z => ?_) fun _ _ z => z)
  · match r, z with
    | .error e, z => exact (cx_false z).elim
    | .ok (.ret u), z => exact I.after z
    | .ok .next, z => exact z.elim
    | .ok .brk, z => exact z.elim
    | .ok .cont, z => exact z.elim
  · obtain ⟨z', H', I', rz, b, rfl, qb⟩ := z
    obtain ⟨t, rfl⟩ := rz
    exact ⟨.str b, H', I', ⟨t, rfl⟩, qb⟩
def strO : Option D → Option Str
  | some (.str x) => some x
  | _ => none
def strD (ts : Nat → Option Fm) : List D → Option D
  | [.int i] => if i.natAbs.log2 < 1920 then some (.str (toString i)) else none
  | [.str x] => some (.str x)
  | [.ins n fs] => (match ts n with
    | some m => (strO (pureD m [.ins n fs])).map .str
    | none => none)
  | _ => none
abbrev rStrY (cn : Cn) (ad : Ad) (ts : Nat → Option Fm) : List V → Hp → VK → Prop := fun xs H Q => ((∃ i : Int, xs = [.int i] ∧ i.natAbs.log2 < 1920 ∧ Q (.str (toString i)) H) ∨ (∃ a, xs = [.str a] ∧ Q (.str a) H)) ∨ rStrOwn cn ad ts xs H Q
theorem ok_strD : BltOk c (rStrY c.toCn c.ad ts) (strD ts) := by
  intro Hf H σ l ds d vs Q R r e q
  match ds, e, r with
  | [.int i], e, r =>
    obtain ⟨x, rfl, h1⟩ := rvals1 r
    cases h1
    have e : (if i.natAbs.log2 < 1920 then some (D.str (toString i)) else none) = some d := e
    split at e
    · rename_i hz
      cases e
      exact .inl (.inl ⟨i, rfl, hz, q.flat R rfl⟩)
    · cases e
  | [.str a], e, r =>
    obtain ⟨x, rfl, h1⟩ := rvals1 r
    cases h1
    cases e
    exact .inl (.inr ⟨a, rfl, q.flat R rfl⟩)
  | [.ins n fs], e, r =>
    obtain ⟨x, rfl, h1⟩ := rvals1 r
    have e : (match ts n with
      | some m => (strO (pureD m [.ins n fs])).map D.str
      | none => none) = some d := e
    cases et : ts n with
    | none => rw [et] at e; cases e
    | some m =>
      rw [et] at e
      obtain ⟨b, e1, e2⟩ := Option.map_eq_some_iff.mp e
      cases e2
      have hp : pureD m [.ins n fs] = some (.str b) := by
        cases z : pureD m [.ins n fs] with
        | none => rw [z] at e1; cases e1
        | some w =>
          rw [z] at e1
          cases w <;> first | cases e1; rfl | cases e1
      refine .inr ⟨Hf, n, m, fs, x, rfl, et, R.sub, h1, spF_pure R (.cons h1 .nil) hp ?_⟩
      intro v H' Hf' R' s' rv
      cases (show v = .str b from rv)
      exact ⟨b, rfl, q _ _ _ R' s' rfl⟩
variable {W : WX} {a : Expr} {p pos : Pos} {fa : LSt → Res D} {cn : Cn} {j : Nat}
theorem e_str (Z : Ctx X c W cn k) (T : StrOk X.prog X.w X.mg X.base cn j ts) (hj : j + 2 ≤ k) (hm : X.mg "str" = none) (ha : DE X c W a fa) (hg : Gl X "str" := by rfl) (he : starEach [a] X.env = (false, eval a X.env) :: starEach [] X.env := by rfl) :
    DE X c W (.Call (.Name "str" p) [a] [] pos) (sBlt (strD ts) (sCons fa sNil)) :=
  de_bltT ((call_str_int.or SkE.call_str_str).or (cr_strOwn (cn := c.toCn) (ad := c.ad) Z.hK (by rw [Z.hc]; exact T) (Z.hr.mono hj))) ok_strD hg hm (by rfl) (da_cons ha da_nil he) (by decide) (by decide) he
end
/-! ### ranges with a step -/
def rangeCD (lo c : Int) (n : Nat) : List D := (List.range n).map fun i => D.int (lo + (i : Nat) * c)
theorem goodC {c : Ac} {Hf1 : Hp} {lo k : Int} {n : Nat} : GoodIt c (Itc lo k n) Hf1 (rangeCD lo k n) := by
  intro Hf σ H l R s
  refine ⟨fun i d e => ?_, ?_⟩
  · unfold rangeCD at e
    rw [List.getElem?_map] at e
    by_cases hi : i < n
    · rw [List.getElem?_range hi] at e
      cases e
      refine ⟨hi, fun x H' y => ?_⟩
      obtain ⟨e1, e2⟩ := y
      subst e1 e2
      exact ⟨Hf, Same.refl _, rfl, .inl ⟨rfl, rfl⟩⟩
    · rw [List.getElem?_eq_none (by rw [List.length_range]; omega)] at e
      cases e
  · show n ≤ (rangeCD lo k n).length
    unfold rangeCD
    rw [List.length_map, List.length_range]
    exact Nat.le_refl _
def rng3D : List D → Option (List D)
  | [.int i, .int j, .int c] => if c ≠ 0 ∧ c.natAbs < 1073741824 ∧ Builtin.Range.small i j c = true ∧ 0 ≤ Builtin.Range.rangeSize i j c then some (rangeCD i c (Builtin.Range.rangeSize i j c).toNat) else none
  | _ => none
theorem rng3_inv {ds xs : List D} (h : rng3D ds = some xs) : ∃ i j c n, ds = [.int i, .int j, .int c] ∧ RgC i j c n ∧ xs = rangeCD i c n := by
  unfold rng3D at h
  split at h
  · rename_i i j c
    split at h
    · rename_i hz
      cases h
      exact ⟨i, j, c, _, rfl, ⟨hz.1, hz.2.1, hz.2.2.1, (Int.toNat_of_nonneg hz.2.2.2).symm⟩, rfl⟩
    · cases h
  · cases h
section
variable {X : Cx} {c : Ac} {W : WX} {tg a b e : Expr} {p pos : Pos} {fs : LSt → Res (List D)} {fe : LSt → Res D}
theorem di_range3 (hm : X.mg "range" = none) (ha : DA X c W [a, b, e] fs) (hg : Gl X "range" := by rfl) (hs : starEach [a, b, e] X.env = (false, eval a X.env) :: starEach [b, e] X.env := by rfl) (hpl : (backTo pos (starEach [b, e] X.env)).any (·.1) = false := by rfl) :
    DI X c W tg (.Call (.Name "range" p) [a, b, e] [] pos) (sWalk rng3D fs) :=
  ⟨(pi_range3 hg hm ha.pa hs hpl).imp' fun σ H R ⟨Hf, l, RR, h⟩ => run_bindA walk_mo RR h fun ds l1 vs H1 Hf1 R1 s1 r1 h1 => by
    cases ee : rng3D ds with
    | none =>
      rw [ee] at h1
      exact h1.elim
    | some xs =>
      rw [ee] at h1
      obtain ⟨i, j, k, n, rfl, rg, rfl⟩ := rng3_inv ee
      obtain ⟨x, r', e1, q1, r2⟩ := r1
      obtain ⟨y, z, rfl, q2, q3⟩ := rvals2 r2
      cases q1
      cases q2
      cases q3
      exact ⟨i, j, k, n, e1, rg, h1 _ H1 Hf1 R1 (Same.refl _) goodC⟩⟩
/-! ### a range as a value -/
def rngVD : List D → Option D
  | [.int i, .int j] => some (.rng i j)
  | _ => none
theorem ok_rngV : BltOk c (fun vs H Q => ∃ i j, vs = [V.int i, V.int j] ∧ ∀ p, H p = none → Q (.ref p) (upd H p (.rng i j))) rngVD := by
  intro Hf H σ l ds d vs Q R r e q
  match ds, e, r with
  | [.int i, .int j], e, r =>
    obtain ⟨x, y, rfl, h1, h2⟩ := rvals2 r
    cases h1
    cases h2
    cases e
    exact ⟨i, j, rfl, fun p n => q.new R n ⟨p, rfl, upd_same⟩⟩
theorem e_range2 (hm : X.mg "range" = none) (ha : DE X c W a fe) {fb : LSt → Res D} (hb : DE X c W b fb) (hg : Gl X "range" := by rfl) (he : starEach [a, b] X.env = (false, eval a X.env) :: starEach [b] X.env := by rfl) (he2 : starEach [b] X.env = (false, eval b X.env) :: starEach [] X.env := by rfl)
    (hpl : (backTo pos (starEach [b] X.env)).any (·.1) = false := by rfl) : DE X c W (.Call (.Name "range" p) [a, b] [] pos) (sBlt rngVD (sCons fe (sCons fb sNil))) :=
  de_bltT cr_range2 ok_rngV hg hm (by rfl) (da_cons ha (da_cons hb da_nil he2) he) (by decide) (by decide) he hpl
def walkR : D → Option (List D)
  | .rng i j => if i.natAbs < 2 ^ 61 ∧ j.natAbs < 2 ^ 61 then some (rangeD i (j - i).toNat) else none
  | _ => none
def sItemsR (a : LSt → Res D) : LSt → Res (List D) := fun l => (a l).bind fun d l => opt (walkR d) l
theorem di_rng (he : DE X c W e fe) : DI X c W tg e (sItemsR fe) := by
  refine ⟨⟨fun pins s σ H R I ⟨Hf, l, RR, h⟩ => ?_⟩⟩
  have q := run_bind (Q := fun x H1 => ∃ a i j, x = .ref a ∧ H1 a = some (.rng i j) ∧ (i.natAbs < 2 ^ 61 ∧ j.natAbs < 2 ^ 61) ∧ R (Itr i (j - i).toNat) H1) walk_mo RR h fun d l1 v H1 Hf1 R1 s1 r1 h1 => by
    cases d with
    | rng i j =>
      obtain ⟨a, rfl, ha⟩ := r1
      have h1 : wpR (opt (if i.natAbs < 2 ^ 61 ∧ j.natAbs < 2 ^ 61 then some (rangeD i (j - i).toNat) else none) l1) _ _ := h1
      split at h1
      · rename_i hz
        exact ⟨a, i, j, rfl, R1.sub _ _ ha, hz, h1 _ H1 Hf1 R1 (Same.refl _) goodR⟩
      · exact h1.elim
    | _ => exact h1.elim
  refine thn (he.pe.run pins s σ H _ I q) fun v s1 ⟨x, H1, I1, r1, a, i, j, ex, ha, hz, q1⟩ => ?_
  subst ex
  cases (show v = Value.ref a from r1)
  obtain ⟨t, u, w, ho⟩ := (show ObjOk X.prog X.w H1 s1.heap a (.rng i j) from I1.hok a _ ha)
  refine wpAny_pyIter_range (show IsRange s1.heap a i j 1 t u w from ho) (small_one (by omega) (by omega) (by omega) (by omega)) ?_
  refine pi_one (tk := s1.toks) I1 _ (turn_range _ i (j - i).toNat) ?_ q1
  have e1 : i + ((0 : Nat) : Int) * 1 = i := by simp
  have e2 : (((j - i).toNat : Nat) : Int) - ((0 : Nat) : Int) = Builtin.Range.rangeSize i j 1 := by rw [rangeSize_one]; split <;> omega
  show IsRangeIter _ _ (i + ((0 : Nat) : Int) * 1) ((((j - i).toNat : Nat) : Int) - ((0 : Nat) : Int)) 1
  rw [e1, e2]
  exact Heap.get?_push_size _ rfl
end
end Dx

/-! Dx.Mxd: max(d.values(), default=e), the values ints. -/
namespace Dx
open PySem PySem.Spec PyProof.Rows L2

def maxL : Int → List Int → Int
  | m, [] => m
  | m, i :: r => maxL (if m < i then i else m) r
/-- the first of the greatest -/
theorem argBest_max (f : Nat → Int) : ∀ n, f (argBest (fun i j => decide (f j < f i)) n) = ((List.range n).map fun i => f (i + 1)).foldl (fun m i => if m < i then i else m) (f 0)
  | 0 => rfl
  | n + 1 => by
    rw [List.range_succ, List.map_append, List.foldl_append]
    show f (if decide (f (argBest (fun i j => decide (f j < f i)) n) < f (n + 1)) = true then n + 1 else argBest (fun i j => decide (f j < f i)) n) = _
    have ih := argBest_max f n
    rw [← ih]
    show _ = (if f (argBest (fun i j => decide (f j < f i)) n) < f (n + 1) then f (n + 1) else f (argBest (fun i j => decide (f j < f i)) n))
    by_cases h : f (argBest (fun i j => decide (f j < f i)) n) < f (n + 1)
    · rw [if_pos (decide_eq_true h), if_pos h]
    · rw [if_neg (by simpa using h), if_neg h]
theorem maxL_fold : ∀ (r : List Int) (m : Int), maxL m r = r.foldl (fun m i => if m < i then i else m) m
  | [], _ => rfl
  | i :: r, m => maxL_fold r _
theorem map_range_get (r : List Int) (d : Int) : (List.range r.length).map (fun i => (r[i]?).getD d) = r := by
  apply List.ext_getElem?
  intro j
  rw [List.getElem?_map]
  by_cases h : j < r.length
  · rw [List.getElem?_range h, List.getElem?_eq_getElem h]
    simp [h]
  · rw [List.getElem?_eq_none (by simpa using Nat.le_of_not_lt h), List.getElem?_eq_none (by omega)]
    rfl
def rMaxV : List V → List V → Hp → VK → Prop := fun vs zs H Q => ∃ (p a : Addr) (kvs : List (Key × V)) (ns : List Int) (z : V), vs = [.ref p] ∧ zs = [z] ∧ H p = some (viewO "dict_values" p a) ∧ Rd H a (.dK kvs) ∧ kvs.map (·.2) = ns.map V.int ∧ (match ns with
  | [] => Q z H
  | n :: r => Q (.int (maxL n r)) H)
section
variable {X : Cx}
theorem cr_maxV (hc : X.calm = true) : CallRK X (.builtin "max") [Str.ofString "default"] rMaxV := by
  intro pins s σ H vs zs us ws Q I r rz h
  obtain ⟨p, a, kvs, ns, z, rfl, rfl, hp, hk, e, q⟩ := h
  obtain ⟨u, rfl, ru⟩ := vals1 r
  cases (show u = Value.ref p from ru)
  obtain ⟨zu, rfl, rzu⟩ := vals1 rz
  obtain ⟨len, lo, vs, rk, hd⟩ := dk_rd I.hok hk
  have hv := (show ObjOk X.prog X.w H s.heap p (viewO "dict_values" p a) from I.hok p _ hp).1
  obtain ⟨ep, hat⟩ := hd.dictAt
  have hl : kvs.length = vs.length := Paired.length rk
  have hn : ns.length = vs.length := by rw [← hl, ← List.length_map (f := V.int), ← e, List.length_map]
  have hh : X.A.in1.handled = none := I.ok.hd hc
  have ha : a < s.heap.objs.size := hat.lt_size
  have W := Walks.dictValues (prog := X.prog) (w := X.w) (A := X.A.in1) hh s.heap.objs.size a (Nat.ne_of_lt ha) vs ep (knd := mixKind X.prog X.w)
  have num : ∀ (i : Nat) (v : Value), ∀ _ : (∃ k, vs[i]? = some (k, v)), ∃ t, v = Value.int ((ns[i]?).getD 0) t := by
    rintro i v ⟨k, hk⟩
    have hi : i < vs.length := (List.getElem?_eq_some_iff.mp hk).1
    have e1 : (kvs.map (·.2))[i]? = some (.int ((ns[i]?).getD 0)) := by
      rw [e, List.getElem?_map, List.getElem?_eq_getElem (by omega : i < ns.length)]
      rfl
    have r2 := kv_vals rk
    obtain ⟨u, e2, r3⟩ := r2.get e1
    rw [List.getElem?_map, hk] at e2
    cases e2
    exact r3
  refine call_max_walkD (wpAny_pyIter_values (⟨_, hv, rfl, rfl⟩ : s.heap.IsValuesView p a) hat ?_)
  refine ⟨_, _, _, _, _, _, _, s.heap, fun i j => decide ((ns[j]?).getD 0 < (ns[i]?).getD 0), rfl, W.toS, ?_, ?_, ?_, ?_, fun h0 s' hm => ?_, fun h0 => ⟨?_, fun v s' hP hm => ?_⟩⟩
  · exact ⟨⟨_, Heap.get?_push_size _ rfl, rfl, rfl⟩, hat.push _⟩
  · intro b hb
    have hs : ∀ o, (s.heap.push o).objs.size = s.heap.objs.size + 1 := fun o => Heap.size_push ..
    rw [hs]
    rcases List.mem_cons.mp hb with rfl | hb
    · exact Nat.lt_succ_self _
    · rw [List.mem_singleton.mp hb]
      exact Nat.lt_succ_of_lt ha
  · intro b o eb hb
    rw [List.mem_singleton.mp hb] at eb
    exact absurd (Heap.lt_size eb) (Nat.lt_irrefl _)
  · exact fun b o eb => Heap.get?_push_of_some _ eb
  · cases ns with
    | nil =>
      rw [Moved.eq_with hm]
      exact ⟨z, H, I.kept (t' := s'.toks) fun b o eb => hm.heap b o (fun hb => absurd (Heap.lt_size eb) (by rw [List.mem_singleton.mp hb]; exact Nat.lt_irrefl _)) (Heap.get?_push_of_some _ eb), rzu, q⟩
    | cons n r => rw [← hn] at h0; cases h0
  · intro i j vi vj s1 Q1 E1 _ hi hj q1
    obtain ⟨t1, rfl⟩ := num i vi hi
    obtain ⟨t2, rfl⟩ := num j vj hj
    exact gt_int q1
  · cases ns with
    | nil => rw [← hn] at h0; exact absurd h0 (Nat.lt_irrefl 0)
    | cons n r =>
      have hle : vs.length - 1 = r.length := by rw [← hn]; rfl
      rw [hle] at hP
      obtain ⟨t, rfl⟩ := num _ v hP
      have em : (((n :: r)[argBest (fun i j => decide (((n :: r)[j]?).getD 0 < ((n :: r)[i]?).getD 0)) r.length]?).getD 0) = maxL n r := by
        rw [argBest_max (fun i => ((n :: r)[i]?).getD 0) r.length, maxL_fold]
        have e2 : (List.range r.length).map (fun i => ((n :: r)[i + 1]?).getD 0) = r := by
          have := map_range_get r 0
          simpa using this
        rw [e2]
        rfl
      rw [em, Moved.eq_with hm]
      exact ⟨.int (maxL n r), H, I.kept (t' := s'.toks) fun b o eb => hm.heap b o (fun hb => absurd (Heap.lt_size eb) (by rw [List.mem_singleton.mp hb]; exact Nat.lt_irrefl _)) (Heap.get?_push_of_some _ eb), ⟨t, rfl⟩, q⟩
end
def maxVD (z : Int) : D → Option D
  | .dK ks ds => if ks.length ≤ ds.length then (match intsD ds with
    | some [] => if ks = [] then some (.int z) else none
    | some (n :: r) => if ks.length = ds.length then some (.int (maxL n r)) else none
    | none => none) else none
  | _ => none
section
variable {X : Cx} {c : Ac} {W : WX} {cn : Cn} {k : Nat} {e : Expr} {fe : LSt → Res D} {p p1 apos cpos kpos pos : Pos} {z : Int} {j : Nat}
theorem e_maxV (Z : Ctx X c W cn k) (hm : X.mg "max" = none) (he : DE X c W e fe) (hg : Gl X "max" := by rfl) (hb : attributeBase e "values" X.env (eval e X.env) = eval e X.env := by rfl) (hline : (apos.endLine == cpos.line) = true := by rfl)
    (he1 : backTo pos (starEach (.Call (.Attribute e "values" apos) [] [] cpos :: []) X.env) = (false, eval (.Call (.Attribute e "values" apos) [] [] cpos) X.env) :: backTo pos (starEach [] X.env) := by rfl)
    (hst : starEach (.Call (.Attribute e "values" apos) [] [] cpos :: []) X.env = (false, eval (.Call (.Attribute e "values" apos) [] [] cpos) X.env) :: starEach [] X.env := by rfl)
    (hpl : (backTo pos (starEach (.Call (.Attribute e "values" apos) [] [] cpos :: []) X.env)).any (·.1) = false := by rfl)
    (hall : (backToKw pos (keywordEach [⟨some "default", .Constant (.int z) j p1, kpos⟩] X.env)).all (·.1.isSome) = true := by rfl) (hnone : (backToKw pos (keywordEach [⟨some "default", .Constant (.int z) j p1, kpos⟩] X.env)).any (·.1.isNone) = false := by rfl)
    (hks : (backToKw pos (keywordEach [⟨some "default", .Constant (.int z) j p1, kpos⟩] X.env)).filterMap (·.1) = [Str.ofString "default"] := by rfl) :
    DE X c W (.Call (.Name "max" p) [.Call (.Attribute e "values" apos) [] [] cpos] [⟨some "default", .Constant (.int z) j p1, kpos⟩] pos) (sUn (maxVD z) fe) :=
  ⟨(pe_callBK (cr_maxV Z.calm) hg hm (by rfl) (pa_cons (pm_0 F.plainAttrs_dict F.slot_dict_values F.type_dict_values mt_vals he.pe hb hline) pa_nil hst) (pk_cons pe_int pk_nil) (by decide) (by decide) he1 hpl hall hnone hks).imp' fun σ H Q ⟨Hf, l, R, h⟩ => run_bind PD.mo R h fun d l1 v H1 Hf1 R1 s1 r1 h1 => by
    cases d with
    | dK ks ds =>
      obtain ⟨a, od, vs, rfl, ha, hl, rv⟩ := r1
      have ha1 := R1.sub _ _ ha
      have h1 : wpR (opt (if ks.length ≤ ds.length then (match intsD ds with
        | some [] => if ks = [] then some (D.int z) else none
        | some (n :: r) => if ks.length = ds.length then some (D.int (maxL n r)) else none
        | none => none) else none) l1) (PD c σ Q Hf1) (PX c W σ Hf1) := h1
      by_cases hle : ks.length ≤ ds.length
      · rw [if_pos hle] at h1
        cases en : intsD ds with
        | none =>
          rw [en] at h1
          exact h1.elim
        | some ns =>
          have ev := intsD_get en rv
          have ez : (ks.zip vs).map (·.2) = ns.map V.int := by
            rw [show (fun x : Key × V => x.2) = Prod.snd from rfl, List.map_snd_zip (by omega), ev]
          refine ⟨.inr ⟨rfl, a, od, rfl, .inl ⟨_, ha1⟩⟩, a, _, rfl, rfl, .inr ⟨od, ha1⟩, fun q hq => ?_⟩
          refine ⟨q, a, _, ns, .int z, rfl, rfl, upd_same, .inr ⟨od, by rw [upd_ne (ne_of_none ha1 hq)]; exact ha1⟩, ez, ?_⟩
          have R2 := R1.hid (o := viewO "dict_values" q a) hq
          cases ns with
          | nil =>
            rw [en] at h1
            have h1 : wpR (opt (if ks = [] then some (D.int z) else none) l1) (PD c σ Q Hf1) (PX c W σ Hf1) := h1
            split at h1
            · exact PD.flat R2 (show PD c σ Q Hf1 (.int z) l1 from h1) rfl
            · exact h1.elim
          | cons n r =>
            rw [en] at h1
            have h1 : wpR (opt (if ks.length = ds.length then some (D.int (maxL n r)) else none) l1) (PD c σ Q Hf1) (PX c W σ Hf1) := h1
            split at h1
            · exact PD.flat R2 (show PD c σ Q Hf1 (.int (maxL n r)) l1 from h1) rfl
            · exact h1.elim
      · rw [if_neg hle] at h1
        exact h1.elim
    | _ => exact h1.elim⟩
end
end Dx

/-! Dx.Thw: a list of the frame's own is handed to a call, and is own again afterwards. -/
namespace Dx
open PySem PySem.Spec PyProof.Rows L2

def noOwns : List Slot → List Slot
  | [] => []
  | .own _ :: r => .un :: noOwns r
  | s :: r => s :: noOwns r
theorem noOwns_eq : ∀ ss : List Slot, noOwns ss = ss.map fun s => if isOwn s = true then .un else s
  | [] => rfl
  | .own _ :: r => by show _ :: noOwns r = _; rw [noOwns_eq r]; rfl
  | .un :: r => by show _ :: noOwns r = _; rw [noOwns_eq r]; rfl
  | .v _ :: r => by show _ :: noOwns r = _; rw [noOwns_eq r]; rfl
  | .slf :: r => by show _ :: noOwns r = _; rw [noOwns_eq r]; rfl
  | .fn :: r => by show _ :: noOwns r = _; rw [noOwns_eq r]; rfl
  | .er _ _ :: r => by show _ :: noOwns r = _; rw [noOwns_eq r]; rfl
def flatD : D → Bool
  | .non => true
  | .bl _ => true
  | .int _ => true
  | .str _ => true
  | .ty _ => true
  | .tup _ => false
  | .lst _ => false
  | .dK _ _ => false
  | .dT _ _ => false
  | .ins _ _ => false
  | .scr _ => false
  | .glo _ => true
  | .dice => true
  | .rng _ _ => false
theorem flat_any {c c' : Cn} {ad : Ad} {H H' : Hp} (hc : c'.gA = c.gA) : ∀ {d : D} {v : V}, flatD d = true → RVal c' ad H d v → RVal c ad H' d v
  | .non, _, _, h => h
  | .bl _, _, _, h => h
  | .int _, _, _, h => h
  | .str _, _, _, h => h
  | .ty _, _, _, h => h
  | .tup _, _, e, _ => by cases e
  | .lst _, _, e, _ => by cases e
  | .dK _ _, _, e, _ => by cases e
  | .dT _ _, _, e, _ => by cases e
  | .ins _ _, _, e, _ => by cases e
  | .scr _, _, e, _ => by cases e
  | .glo n, _, _, h => by show _ = _; rw [← hc]; exact h
  | .dice, _, _, h => h
  | .rng _ _, _, e, _ => by cases e
/-- the list in slot i is seen as data; afterwards it is the frame's own again -/
def sThaw (i : Nat) (f : LSt → Res D) : LSt → Res D := fun l => match l.sl[i]? with
  | some (.own (.lst ds)) => (match f ⟨(noOwns l.sl).set i (.v (.lst ds)), ⟨l.g.d, none⟩⟩ with
    | .ok d l1 => if flatD d = true then .ok d ⟨l.sl, ⟨l1.g.d, l.g.ob⟩⟩ else .bad
    | .ex x l1 => if x.args.all flatD = true then .ex x ⟨l.sl, ⟨l1.g.d, l.g.ob⟩⟩ else .bad
    | .bad => .bad)
  | _ => f l
section
variable {X : Cx} {c : Ac} {W : WX} {e : Expr} {f : LSt → Res D} {Hf H : Hp} {σ : L2.St} {l : LSt}
def Ac.shut (c : Ac) (Hf1 hid : Hp) (x : Bool) : Ac := { c with hid := hid, Hf0 := Hf1, gs := (x, false) }
@[reducible] def G.shut (g : G) : G := ⟨g.d, none⟩
theorem REnv.shut (R : REnv c Hf σ H l) {i : Nat} {ds : List D} {a : Addr} {vs : List V} (hs : l.sl[i]? = some (.own (.lst ds))) (ea : σ[i]? = some (some (.ref a))) (ha : H a = some (.lst vs))
    (rc : RVals c.toCn c.ad Hf ds vs) (n : Hf a = none) (nd : ¬ isD c.toCn l.g c.ad a) :
    REnv (c.shut (upd Hf a (.lst vs)) (hidOf c.toCn H (upd Hf a (.lst vs)) l.g.shut c.ad) l.g.d.isSome) (upd Hf a (.lst vs)) σ H ⟨(noOwns l.sl).set i (.v (.lst ds)), l.g.shut⟩ := by
  have hi : i < l.sl.length := (List.getElem?_eq_some_iff.mp hs).1
  have at_ : ∀ j, ((noOwns l.sl).set i (.v (.lst ds)))[j]? = if j = i then some (.v (.lst ds)) else (l.sl[j]?).map fun s => if isOwn s = true then .un else s := fun j => by
    by_cases e : j = i
    · subst e
      rw [if_pos rfl, List.getElem?_set_self (by rw [noOwns_eq, List.length_map]; exact hi)]
    · rw [if_neg e, List.getElem?_set_ne (Ne.symm e), noOwns_eq, List.getElem?_map]
  refine ⟨?_, fun j s hj => ?_, fun j k s t b hj hk os ot ej ek => ?_, upd_sub R.sub ha, Same.refl _, fun b u h => hidOf_some h, ⟨(R.dice.seen nd n).dc, (fun k fs q => by cases q), (R.dice.seen nd n).tb⟩, rfl⟩
  · show σ.length = ((noOwns l.sl).set i (.v (.lst ds))).length
    rw [List.length_set, noOwns_eq, List.length_map]
    exact R.len
  · have hj' := hj
    rw [show (LSt.sl ⟨(noOwns l.sl).set i (.v (.lst ds)), l.g.shut⟩)[j]? = _ from at_ j] at hj'
    by_cases e : j = i
    · subst e
      rw [if_pos rfl] at hj'
      cases hj'
      refine ⟨_, ea, .ref a, rfl, a, vs, rfl, upd_same, ?_⟩
      exact RVals.mono (same_upd n) _ _ rc
    · rw [if_neg e] at hj'
      cases q : l.sl[j]? with
      | none => rw [q] at hj'; cases hj'
      | some s0 =>
        rw [q] at hj'
        obtain ⟨x, ex, rs⟩ := R.slot j s0 q
        refine ⟨x, ex, ?_⟩
        cases s0 with
        | own co => cases hj'; exact True.intro
        | un => cases hj'; exact True.intro
        | slf => cases hj'; exact rs
        | fn => cases hj'; exact rs
        | er _ _ => cases hj'; exact RErr.mono (same_upd n) rs
        | v d =>
          cases hj'
          obtain ⟨v, q1, q2⟩ := rs
          exact ⟨v, q1, q2.mono (same_upd n)⟩
  · have hj' := hj
    rw [show (LSt.sl ⟨(noOwns l.sl).set i (.v (.lst ds)), l.g.shut⟩)[j]? = _ from at_ j] at hj'
    by_cases e : j = i
    · rw [if_pos e] at hj'
      cases hj'
      cases os
    · rw [if_neg e] at hj'
      cases q : l.sl[j]? with
      | none => rw [q] at hj'; cases hj'
      | some s0 =>
        rw [q] at hj'
        cases s0 <;> · cases hj'; cases os
def openH (a : Addr) (Hf2 : Hp) : Hp := fun b => if b = a then none else Hf2 b
theorem openH_ne {a b : Addr} {Hf2 : Hp} (h : b ≠ a) : openH a Hf2 b = Hf2 b := if_neg h
theorem openH_at {a : Addr} {Hf2 : Hp} : openH a Hf2 a = none := if_pos rfl
theorem openH_none {a b : Addr} {Hf2 : Hp} (h : Hf2 b = none) : openH a Hf2 b = none := by
  by_cases e : b = a
  · rw [e]; exact openH_at
  · rw [openH_ne e]; exact h
theorem openH_some {a b : Addr} {o : HO} {Hf2 : Hp} (h : openH a Hf2 b = some o) : b ≠ a ∧ Hf2 b = some o := by
  by_cases e : b = a
  · rw [e, openH_at] at h; cases h
  · rw [openH_ne e] at h; exact ⟨e, h⟩
theorem REnv.unshut {Hf2 H2 : Hp} {l1 : LSt} (R : REnv c Hf σ H l) {i : Nat} {ds : List D} {a : Addr} {vs : List V} (ha : H a = some (.lst vs)) (n : Hf a = none) (n0 : c.hid a = none)
    (R2 : REnv (c.shut (upd Hf a (.lst vs)) (hidOf c.toCn H (upd Hf a (.lst vs)) l.g.shut c.ad) l.g.d.isSome) Hf2 σ H2 l1) (s2 : Same (upd Hf a (.lst vs)) Hf2) (nd : ¬ isD c.toCn l.g c.ad a) :
    REnv c (openH a Hf2) σ H2 ⟨l.sl, ⟨l1.g.d, l.g.ob⟩⟩ ∧ Same Hf (openH a Hf2) := by
  have at2 : Hf2 a = some (.lst vs) := s2 _ _ upd_same
  have S : Same Hf (openH a Hf2) := fun b u h => by
    have ne : b ≠ a := ne_of_none h n
    rw [openH_ne ne]
    exact s2 _ _ (by rw [upd_ne ne]; exact h)
  have sub3 : Same (openH a Hf2) H2 := fun b u h => R2.sub _ _ (openH_some h).2
  have gd : l1.g.d.isSome = l.g.d.isSome := congrArg Prod.fst (show l1.g.sh = (l.g.d.isSome, false) from R2.hgs)
  have g_ : G.sh ⟨l1.g.d, l.g.ob⟩ = l.g.sh := by show (l1.g.d.isSome, l.g.ob.isSome) = (l.g.d.isSome, l.g.ob.isSome); rw [gd]
  have isd : ∀ b, isD c.toCn ⟨l1.g.d, l.g.ob⟩ c.ad b ↔ isD c.toCn l.g c.ad b := fun b => by
    show (((G.sh ⟨l1.g.d, l.g.ob⟩).1 = true ∧ _) ∨ ((G.sh ⟨l1.g.d, l.g.ob⟩).2 = true ∧ _) ∨ _) ↔ ((l.g.sh.1 = true ∧ _) ∨ (l.g.sh.2 = true ∧ _) ∨ _)
    rw [g_]
  have shut_ : ∀ b, isD c.toCn l.g.shut c.ad b → isD c.toCn l.g c.ad b := fun b z => by
    rcases z with z | z | z
    · exact .inl z
    · exact absurd z.1 (by show ¬ ((none : Option (Nat × List (Option D))).isSome = true); exact nofun)
    · exact .inr (.inr z)
  have keep0 : ∀ b o, H b = some o → Hf b = none → ¬ isD c.toCn l.g.shut c.ad b → b ≠ a → H2 b = some o ∧ openH a Hf2 b = none := fun b o h h1 h2 ne => by
    obtain ⟨q1, q2, _⟩ := R2.frame b o (hidOf_of h (by rw [upd_ne ne]; exact h1) h2)
    exact ⟨q1, openH_none q2⟩
  have keep : ∀ b o, H b = some o → Hf b = none → ¬ isD c.toCn l.g c.ad b → b ≠ a → H2 b = some o ∧ openH a Hf2 b = none := fun b o h h1 h2 ne => keep0 b o h h1 (fun z => h2 (shut_ b z)) ne
  refine ⟨⟨R.len, fun j s hj => ?_, R.dis, sub3, R.base.trans S, fun b u h => ?_, ⟨fun x y z q => ?_, fun k fs q => ?_, ⟨fun P q hP => ?_, fun P hP => ?_⟩⟩, g_.trans R.hgs⟩, S⟩
  · obtain ⟨x, e, r⟩ := R.slot j s hj
    have r' : RSlot c Hf H ⟨l1.g.d, l.g.ob⟩ s x := by
      cases s with
      | un => exact True.intro
      | slf => exact r
      | fn => exact r
      | er _ _ => exact r
      | v _ => exact r
      | own co =>
        obtain ⟨b, o, q1, q2, q3, q4, q5, q6⟩ := r
        exact ⟨b, o, q1, q2, q3, q4, q5, fun z => q6 ((isd b).mp z)⟩
    refine ⟨x, e, r'.keep S fun b o h1 h2 h3 h4 => ?_⟩
    by_cases ne : b = a
    · subst ne
      rw [ha] at h1
      cases h1
      exact ⟨R2.sub _ _ at2, openH_at⟩
    · exact keep b o h1 h2 (fun z => h4 ((isd b).mpr z)) ne
  · obtain ⟨h1, h2, h3⟩ := R.frame b u h
    have ne : b ≠ a := fun z => by rw [z, n0] at h; cases h
    obtain ⟨q1, q2⟩ := keep b u h1 h2 h3 ne
    exact ⟨q1, q2, fun z => h3 ((isd b).mp z)⟩
  · obtain ⟨q1, q2⟩ := R2.dice.dc x y z q
    exact ⟨openH_none q1, q2⟩
  · have q' : l.g.ob = some (k, fs) := q
    obtain ⟨q1, q2, q3, q4, us, q5, q6⟩ := R.dice.obj k fs q'
    have hs : l.g.sh.2 = true := by show l.g.ob.isSome = true; rw [q']; rfl
    have n1 : c.ad.oa ≠ a := fun z => nd (.inr (.inl ⟨hs, .inl z.symm⟩))
    have n2 : c.ad.od ≠ a := fun z => nd (.inr (.inl ⟨hs, .inr z.symm⟩))
    have ndice : ∀ b o, H b = some o → (∀ xs, o ≠ .lst xs) → (∀ ps, o ≠ .tbl ps) → ¬ isD c.toCn l.g.shut c.ad b := fun b o h h1 h2 z => by
      rcases z with z | z | z
      · have z1 : l.g.d.isSome = true := z.1
        cases e : l.g.d with
        | none => rw [e] at z1; cases z1
        | some t =>
          obtain ⟨x, y, w⟩ := t
          have := (R.dice.dc x y w e).2
          rw [← z.2, h] at this
          exact h1 _ (Option.some.inj this)
      · exact absurd z.1 (by show ¬ ((none : Option (Nat × List (Option D))).isSome = true); exact nofun)
      · obtain ⟨ps, e⟩ := R.dice.tb.at_ z
        rw [h] at e
        exact h2 _ (Option.some.inj e)
    have ko : ∀ o, H c.ad.oa = some o → (∀ xs, o ≠ .lst xs) → (∀ ps, o ≠ .tbl ps) → H2 c.ad.oa = some o ∧ openH a Hf2 c.ad.oa = none := fun o h h1 h2 => keep0 _ o h q1 (ndice _ o h h1 h2) n1
    have kd : ∀ o, H c.ad.od = some o → (∀ xs, o ≠ .lst xs) → (∀ ps, o ≠ .tbl ps) → H2 c.ad.od = some o ∧ openH a Hf2 c.ad.od = none := fun o h h1 h2 => keep0 _ o h q2 (ndice _ o h h1 h2) n2
    have d4 : (H2 c.ad.od = some (.own c.ad.oa) ∨ H2 c.ad.od = some (.xd [])) ∧ openH a Hf2 c.ad.od = none := by
      rcases q4 with h | h
      · obtain ⟨w1, w2⟩ := kd _ h nofun nofun
        exact ⟨.inl w1, w2⟩
      · obtain ⟨w1, w2⟩ := kd _ h nofun nofun
        exact ⟨.inr w1, w2⟩
    rcases q5 with ⟨h, e⟩ | ⟨h, e⟩
    · obtain ⟨w1, w2⟩ := ko _ h nofun nofun
      exact ⟨w2, d4.2, q3, d4.1, us, .inl ⟨w1, e⟩, q6.mono S⟩
    · obtain ⟨w1, w2⟩ := ko _ h nofun nofun
      obtain ⟨w3, _⟩ := kd _ e nofun nofun
      exact ⟨w2, d4.2, q3, d4.1, us, .inr ⟨w1, w3⟩, q6.mono S⟩
  · obtain ⟨q1, ps, q2, q3, q4⟩ := R2.dice.tb.lam P q hP
    refine ⟨openH_none q1, ps, q2, q3, fun pos cv h => ?_⟩
    obtain ⟨k, e1, e2⟩ := q4 pos cv h
    refine ⟨k, e1, ?_⟩
    rw [openH_ne (fun z => by rw [z, at2] at e2; cases e2)]
    exact e2
  · obtain ⟨q1, q2⟩ := R2.dice.tb.gen P hP
    exact ⟨openH_none q1, q2⟩
theorem de_thaw (i : Nat) (he : ∀ c' : Ac, c'.toCn = c.toCn → DE X c' W e f) : DE X c W e (sThaw i f) :=
  ⟨(show PE X e (fun σ H Q => ∃ c' : Ac, c'.toCn = c.toCn ∧ tD c' W f σ H Q) from ⟨fun pins s σ H Q I ⟨c', h1, h2⟩ => (he c' h1).pe.run pins s σ H Q I h2⟩).imp' fun σ H Q ⟨Hf, l, R, h⟩ => by
    unfold sThaw at h
    split at h
    · rename_i ds hs
      obtain ⟨a, o, ea, ha, ⟨vs, rfl, rc⟩, n, n0, nd⟩ := R.own hs
      refine ⟨c.shut (upd Hf a (.lst vs)) (hidOf c.toCn H (upd Hf a (.lst vs)) l.g.shut c.ad) l.g.d.isSome, rfl, upd Hf a (.lst vs), _, R.shut hs ea ha rc n nd, ?_⟩
      cases q : f ⟨(noOwns l.sl).set i (.v (.lst ds)), l.g.shut⟩ with
      | ok d l1 =>
        rw [show (⟨l.g.d, none⟩ : G) = l.g.shut from rfl, q] at h
        dsimp only at h
        split at h
        · rename_i hfl
          intro v H2 Hf2 R2 s2 r2
          obtain ⟨R3, S3⟩ := R.unshut (i := i) (ds := ds) ha n n0 R2 s2 nd
          exact h v H2 _ R3 S3 (flat_any rfl hfl r2)
        · exact h.elim
      | ex x l1 =>
        rw [show (⟨l.g.d, none⟩ : G) = l.g.shut from rfl, q] at h
        dsimp only at h
        split at h
        · rename_i hfl
          intro cls dd H2 Hf2 R2 s2 r2
          obtain ⟨R3, S3⟩ := R.unshut (i := i) (ds := ds) ha n n0 R2 s2 nd
          refine h cls dd H2 _ R3 S3 ⟨r2.1, ?_⟩
          rcases r2.2 with z | ⟨d, b, v, z1, z2, z3, z4⟩
          · exact .inl z
          · refine .inr ⟨d, b, v, z1, z2, ?_, flat_any rfl (by have := hfl; rw [z1] at this; simpa using this) z4⟩
            rw [openH_ne (fun z => by rw [z, s2 _ _ upd_same] at z3; cases z3)]
            exact z3
        · exact h.elim
      | bad =>
        rw [show (⟨l.g.d, none⟩ : G) = l.g.shut from rfl, q] at h
        exact h.elim
    · exact ⟨c, rfl, Hf, l, R, h⟩⟩
theorem e_thaw {cn : Cn} {k : Nat} (i : Nat) (Z : Ctx X c W cn k) (he : ∀ c' : Ac, c'.toCn = c.toCn → Ctx X c' W cn k → DE X c' W e f) : DE X c W e (sThaw i f) :=
  de_thaw i fun c' h => he c' h ⟨Z.hK.trans (congrArg Cn.K h).symm, h.trans Z.hc, Z.hr, Z.tk, Z.calm, Z.nd, Z.pass⟩
end
end Dx

/-! Dx.Pm: a, b, .. = x, y, .. where some of them are fresh cells. -/
namespace Dx
open PySem PySem.Spec PyProof.Rows L2

def FrI (σ : L2.St) (l : List Slot) (a : Addr) : Prop := ∀ (j : Nat) (s : Slot), l[j]? = some s → isOwn s = true → σ[j]? ≠ some (some (.ref a))
def REVs (c : Ac) (Hf H : Hp) (g : G) (σ : L2.St) (l : List Slot) : List EV → List V → Prop
  | [], vs => vs = []
  | .v d :: es, vs => ∃ v r, vs = v :: r ∧ RVal c.toCn c.ad Hf d v ∧ REVs c Hf H g σ l es r
  | .o co :: es, vs => ∃ a o r, vs = .ref a :: r ∧ H a = some o ∧ RCO c.toCn c.ad Hf co o ∧ Hf a = none ∧ c.hid a = none ∧ ¬ isD c.toCn g c.ad a ∧ FrI σ l a ∧
      (∀ (j : Nat) (co' : CO) (b : Addr), es[j]? = some (.o co') → r[j]? = some (.ref b) → b ≠ a) ∧ REVs c Hf H g σ l es r
section
variable {c : Ac} {Hf H : Hp} {g : G} {σ : L2.St} {l : List Slot}
theorem REVs.length : ∀ (es : List EV) (vs : List V), REVs c Hf H g σ l es vs → es.length = vs.length
  | [], _, h => by
    cases (show _ = [] from h)
    rfl
  | .v _ :: es, _, ⟨v, r, q, _, t⟩ => by rw [q, List.length_cons, List.length_cons, REVs.length es r t]
  | .o _ :: es, _, ⟨a, o, r, q, _, _, _, _, _, _, _, t⟩ => by rw [q, List.length_cons, List.length_cons, REVs.length es r t]
theorem REVs.hidn : ∀ (es : List EV) (vs : List V), REVs c Hf H g σ l es vs → ∀ (j : Nat) (co : CO) (b : Addr), es[j]? = some (.o co) → vs[j]? = some (.ref b) → c.hid b = none ∧ (∃ o, H b = some o)
  | [], _, h, j, co, b, e1, e2 => by simp at e1
  | .v _ :: es, _, ⟨v, r, q, _, t⟩, j, co, b, e1, e2 => by
    subst q
    cases j with
    | zero => simp at e1
    | succ j => exact REVs.hidn es r t j co b (by simpa using e1) (by simpa using e2)
  | .o _ :: es, _, ⟨a, o, r, q, ha, _, _, h0, _, _, _, t⟩, j, co, b, e1, e2 => by
    subst q
    cases j with
    | zero =>
      simp at e2
      subst e2
      exact ⟨h0, o, ha⟩
    | succ j => exact REVs.hidn es r t j co b (by simpa using e1) (by simpa using e2)
theorem REVs.step {σ' : L2.St} {l' : List Slot} : ∀ (es : List EV) (vs : List V), REVs c Hf H g σ l es vs → (∀ (j : Nat) (co : CO) (b : Addr), es[j]? = some (.o co) → vs[j]? = some (.ref b) → FrI σ l b → FrI σ' l' b) → REVs c Hf H g σ' l' es vs
  | [], _, h, _ => h
  | .v _ :: es, _, ⟨v, r, q, h1, t⟩, k => ⟨v, r, q, h1, REVs.step es r t fun j co b e1 e2 => k (j + 1) co b (by simpa using e1) (by rw [q]; simpa using e2)⟩
  | .o co :: es, _, ⟨a, o, r, q, h1, h2, h3, h4, h5, h6, h7, t⟩, k => ⟨a, o, r, q, h1, h2, h3, h4, h5, k 0 co a rfl (by rw [q]; rfl) h6, h7, REVs.step es r t fun j co b e1 e2 => k (j + 1) co b (by simpa using e1) (by rw [q]; simpa using e2)⟩
theorem REVs.alloc {T : Addr} {u : HO} (n : H T = none) : ∀ (es : List EV) (vs : List V), REVs c Hf H g σ l es vs → REVs c Hf (upd H T u) g σ l es vs
  | [], _, h => h
  | .v _ :: es, _, ⟨v, r, q, h1, t⟩ => ⟨v, r, q, h1, REVs.alloc n es r t⟩
  | .o co :: es, _, ⟨a, o, r, q, h1, h2, h3, h4, h5, h6, h7, t⟩ => ⟨a, o, r, q, by rw [upd_ne (ne_of_none h1 n)]; exact h1, h2, h3, h4, h5, h6, h7, REVs.alloc n es r t⟩
theorem REVs.unmind {a0 : Addr} {o0 : HO} : ∀ (es : List EV) (vs : List V), REVs (c.more a0 o0) Hf H g σ l es vs → REVs c Hf H g σ l es vs
  | [], _, h => h
  | .v _ :: es, _, ⟨v, r, q, h1, t⟩ => ⟨v, r, q, h1, REVs.unmind es r t⟩
  | .o co :: es, _, ⟨a, o, r, q, h1, h2, h3, h4, h5, h6, h7, t⟩ => ⟨a, o, r, q, h1, h2, h3, (by
      have z : upd c.hid a0 o0 a = none := h4
      by_cases e : a = a0
      · rw [e, upd_same] at z; cases z
      · rw [upd_ne e] at z; exact z), h5, h6, h7, REVs.unmind es r t⟩
end
def LSt.putEV (l : LSt) (i : Nat) : EV → LSt
  | .v d => l.put i (.v d)
  | .o co => l.put i (.own co)
def putEVs : List Nat → List EV → LSt → LSt
  | i :: is, e :: es, l => putEVs is es (l.putEV i e)
  | [], _, l => l
  | _ :: _, [], l => l
def setAll : List Nat → List V → L2.St → L2.St
  | i :: is, v :: vs, σ => setAll is vs (σ.set i (some v))
  | [], _, σ => σ
  | _ :: _, [], σ => σ
theorem frI_v {σ : L2.St} {l : List Slot} {i : Nat} {v : V} {d : D} {b : Addr} (h : FrI σ l b) : FrI (σ.set i (some v)) (l.set i (.v d)) b := fun j s hj ho e => by
  by_cases z : j = i
  · subst z
    have hl : j < l.length := by
      have := (List.getElem?_eq_some_iff.mp hj).1
      rwa [List.length_set] at this
    rw [List.getElem?_set_self hl] at hj
    cases hj
    cases ho
  · rw [List.getElem?_set_ne (Ne.symm z)] at hj e
    exact h j s hj ho e
theorem frI_o {σ : L2.St} {l : List Slot} {i : Nat} {co : CO} {a b : Addr} (len : σ.length = l.length) (ne : b ≠ a) (h : FrI σ l b) : FrI (σ.set i (some (.ref a))) (l.set i (.own co)) b := fun j s hj ho e => by
  by_cases z : j = i
  · subst z
    have hl : j < l.length := by
      have := (List.getElem?_eq_some_iff.mp hj).1
      rwa [List.length_set] at this
    rw [List.getElem?_set_self (by rw [len]; exact hl)] at e
    cases e
    exact ne rfl
  · rw [List.getElem?_set_ne (Ne.symm z)] at hj e
    exact h j s hj ho e
theorem REnv.putAll {c : Ac} {Hf H : Hp} : ∀ (is : List Nat) (es : List EV) (vs : List V) (σ : L2.St) (l : LSt), REnv c Hf σ H l → REVs c Hf H l.g σ l.sl es vs → REnv c Hf (setAll is vs σ) H (putEVs is es l)
  | [], _, _, _, _, R, _ => R
  | _ :: _, [], _, _, _, R, h => by
    rw [show _ = [] from h]
    exact R
  | i :: is, .v d :: es, _, σ, l, R, ⟨v, r, q, h1, t⟩ => by
    subst q
    exact REnv.putAll is es r _ _ (R.store h1) (REVs.step es r t fun j co b e1 e2 h => frI_v h)
  | i :: is, .o co :: es, _, σ, l, R, ⟨a, o, r, q, h1, h2, h3, h4, h5, h6, h7, t⟩ => by
    subst q
    exact REnv.putAll is es r _ _ (R.storeO h1 h2 h3 h4 h5 h6) (REVs.step es r t fun j co' b e1 e2 h => frI_o R.len (h7 j co' b e1 e2) h)
def PM (c : Ac) (σ : L2.St) (Q : List V → Hp → Prop) (Hf : Hp) : List EV → LSt → Prop := fun es l' => ∀ vs H' Hf', REnv c Hf' σ H' l' → Same Hf Hf' → REVs c Hf' H' l'.g σ l'.sl es vs → Q vs H'
theorem PM.mo {c : Ac} {σ : L2.St} {Q : List V → Hp → Prop} : Mono (PM c σ Q) := fun _ _ s _ _ h v H' Hf' R s' r => h v H' Hf' R (s.trans s') r
def tM (c : Ac) (W : WX) (f : LSt → Res (List EV)) : TA := fun σ H Q => ∃ Hf l, REnv c Hf σ H l ∧ wpR (f l) (PM c σ Q Hf) (PX c W σ Hf)
structure DM (X : Cx) (c : Ac) (W : WX) (es : List Expr) (f : LSt → Res (List EV)) : Prop where pa : PA X es (tM c W f)
def sMn : LSt → Res (List EV) := fun l => .ok [] l
def sMv (fe : LSt → Res D) (fr : LSt → Res (List EV)) : LSt → Res (List EV) := fun l => (fe l).bind fun d l => (fr l).bind fun r l => .ok (.v d :: r) l
def sMo (fo : LSt → Res CO) (fr : LSt → Res (List EV)) : LSt → Res (List EV) := fun l => (fo l).bind fun co l => (fr l).bind fun r l => .ok (.o co :: r) l
section
variable {X : Cx} {c : Ac} {W : WX} {cn : Cn} {k : Nat} {e : Expr} {es : List Expr} {fe : LSt → Res D} {fo : LSt → Res CO} {fr : LSt → Res (List EV)} {pos : Pos}
theorem dm_nil : DM X c W [] sMn := ⟨pa_nil.imp' fun σ H Q ⟨Hf, l, R, h⟩ => h [] H Hf R (Same.refl _) rfl⟩
theorem dm_v (he : DE X c W e fe) (hr : DM X c W es fr) (hs : starEach (e :: es) X.env = (false, eval e X.env) :: starEach es X.env := by rfl) : DM X c W (e :: es) (sMv fe fr) :=
  ⟨(pa_cons he.pe hr.pa hs).imp' fun σ H Q ⟨Hf, l, R, h⟩ => run_bind PM.mo R h fun d l1 v H1 Hf1 R1 s1 r1 h1 => ⟨Hf1, l1, R1, by
    cases q : fr l1 with
    | ok r l2 =>
      rw [q] at h1
      exact fun vs H2 Hf2 R2 s2 r2 => h1 (v :: vs) H2 Hf2 R2 s2 ⟨v, vs, rfl, r1.mono s2, r2⟩
    | ex x l2 =>
      rw [q] at h1
      exact h1
    | bad =>
      rw [q] at h1
      exact h1⟩⟩
theorem dm_o (Z : Ctx X c W cn k) (ho : DO X c W e fo) (hr : ∀ c' : Ac, c'.toCn = c.toCn → Ctx X c' W cn k → DM X c' W es fr) (hs : starEach (e :: es) X.env = (false, eval e X.env) :: starEach es X.env := by rfl) : DM X c W (e :: es) (sMo fo fr) :=
  ⟨(pa_cons ho.pe (show PA X es (fun σ H Q => ∃ c' : Ac, c'.toCn = c.toCn ∧ tM c' W fr σ H Q) from ⟨fun ps pins s σ H Q I ⟨c', h1, h2⟩ => (hr c' h1 ⟨Z.hK.trans (congrArg Cn.K h1).symm, h1.trans Z.hc, Z.hr, Z.tk, Z.calm, Z.nd, Z.pass⟩).pa.run ps pins s σ H Q I h2⟩) hs).imp' fun σ H Q ⟨Hf, l, R, h⟩ =>
    run_bindO PM.mo R h fun co l1 h1 a o H1 Hf1 R1 s1 ha rc n n0 nd fi => ⟨c.more a o, rfl, Hf1, l1, R1.mind ha n nd fi, by
      cases q : fr l1 with
      | ok r l2 =>
        rw [q] at h1
        intro vs H2 Hf2 R2 s2 r2
        obtain ⟨R3, ha2, n2, nd2, fr2⟩ := R2.unmind n0
        refine h1 (.ref a :: vs) H2 Hf2 R3 (s1.trans s2) ⟨a, o, vs, rfl, ha2, rc.mono s2, n2, n0, nd2, fr2, fun j co' b e1 e2 z => ?_, REVs.unmind _ _ r2⟩
        have w : upd c.hid a o b = none := (REVs.hidn _ _ r2 j co' b e1 e2).1
        rw [z, upd_same] at w
        cases w
      | ex x l2 =>
        rw [q] at h1
        intro cls dd H2 Hf2 R2 s2 r2
        exact h1 cls dd H2 Hf2 (R2.unmind n0).1 (s1.trans s2) r2
      | bad =>
        rw [q] at h1
        exact h1⟩⟩
def zParM (is : List Nat) (fm : LSt → Res (List EV)) : LSt → Fl := fun l => (fm l).toFl fun es l => if es.length = is.length ∧ is.length ≤ 8 then .nx (putEVs is es l) else .bad
theorem to_bindM {Hf H : Hp} {σ : L2.St} {l : LSt} {D : Ends} {f : LSt → Res (List EV)} {kk : List EV → LSt → Fl} {Q : List V → Hp → Prop} (R : REnv c Hf σ H l) (h : wpF c W D Hf ((f l).toFl kk))
    (hk : ∀ es l1 vs H1 Hf1, REnv c Hf1 σ H1 l1 → Same Hf Hf1 → REVs c Hf1 H1 l1.g σ l1.sl es vs → wpF c W D Hf1 (kk es l1) → Q vs H1) : tM c W f σ H Q := by
  refine ⟨Hf, l, R, ?_⟩
  cases e : f l with
  | ok d l1 =>
    rw [e] at h
    exact fun v H1 Hf1 R1 s1 r1 => hk d l1 v H1 Hf1 R1 s1 r1 (h.mo s1)
  | ex x l1 =>
    rw [e] at h
    exact fun cls dd H' Hf' R' s' r => h cls dd σ H' Hf' R' s' r
  | bad =>
    rw [e] at h
    exact h
def gNames : List Nat → TGs
  | [] => gNil
  | i :: is => gCons (gName i) (gNames is)
theorem gNames_ok {H : Hp} {Q : L2.St → Hp → Prop} : ∀ (is : List Nat) (vs : List V) (σ : L2.St), vs.length = is.length → Q (setAll is vs σ) H → gNames is vs σ H Q
  | [], [], σ, _, h => ⟨rfl, h⟩
  | [], _ :: _, _, e, _ => by simp at e
  | _ :: _, [], _, e, _ => by simp at e
  | i :: is, v :: vs, σ, e, h => ⟨v, vs, rfl, gNames_ok is vs _ (by simpa using e) h⟩
structure DGN (X : Cx) (es : List Expr) (is : List Nat) : Prop where ps : PGs X es (gNames is)
theorem dgn_nil : DGN X [] [] := ⟨pgs_nil⟩
theorem dgn_cons {i : Nat} {is : List Nat} (h1 : PG X e (gName i)) (h2 : DGN X es is) (hs : (assignEach (e :: es) X.env).map (·.2) = assign e X.env :: (assignEach es X.env).map (·.2) := by rfl) : DGN X (e :: es) (i :: is) := ⟨pgs_cons h1 h2.ps hs⟩
/-- by a tuple that is unpacked -/
theorem ds_asgM {fm : LSt → Res (List EV)} {tgs : List Expr} {is : List Nat} {kt k2 : Nat} {pt pt2 : Pos} (Z : Ctx X c W cn k) (hm : DM X c W es fm) (hg : DGN X tgs is)
    (hs : swapsWithSole [.Tuple tgs kt pt] (.Tuple es k2 pt2) pos.line X.env = pure false := by rfl) (hw : swappedStores [.Tuple tgs kt pt] (.Tuple es k2 pt2) X.env = pure none := by rfl)
    (hn : (assignEach tgs X.env).length = is.length := by rfl) (hst : (assignEach tgs X.env).findIdx? (·.1) = none := by rfl) :
    DS X c W (.Assign [.Tuple tgs kt pt] (.Tuple es k2 pt2) pos) (zParM is fm) :=
  ⟨(ps_asg (pe_tup hm.pa) (pg_tup Z.calm hg.ps hn hst) hs hw).imp' fun D σ H ⟨Hf, l, R, hh⟩ => to_bindM R hh fun es l1 vs H1 Hf1 R1 s1 r1 h1 => by
    split at h1
    · rename_i hz
      have hv : vs.length = is.length := (REVs.length _ _ r1).symm.trans hz.1
      refine ⟨by rw [hv, sizeLine_eq]; have := hz.2; omega, fun T nT => ⟨T, vs, rfl, .inl (.inl upd_same), hv, ?_⟩⟩
      exact gNames_ok is vs σ hv (h1 _ _ Hf1 (REnv.putAll is _ _ _ _ (R1.hid nT) (REVs.alloc nT _ _ r1)) (Same.refl _))
    · exact h1.elim⟩
/-- two locals -/
theorem ds_par2M {i j : Nat} {x y : Str} {a b : Expr} {fm : LSt → Res (List EV)} {px py pt : Pos} {kt k2 pt2} (Z : Ctx X c W cn k) (hi : X.N[i]? = some x) (hj : X.N[j]? = some y) (hij : i ≠ j)
    (hx : X.env.scope.names.lookup x = some .local) (hy : X.env.scope.names.lookup y = some .local) (ha : DM X c W [a, b] fm)
    (hw : swappedStores [.Tuple [.Name x px, .Name y py] kt pt] (.Tuple [a, b] k2 pt2) X.env = pure (some [x, y]))
    (hs : swapsWithSole [.Tuple [.Name x px, .Name y py] kt pt] (.Tuple [a, b] k2 pt2) pos.line X.env = pure false := by rfl) :
    DS X c W (.Assign [.Tuple [.Name x px, .Name y py] kt pt] (.Tuple [a, b] k2 pt2) pos) (zParM [i, j] fm) :=
  ⟨(ps_par Z.calm Z.nd hi hj hij hx hy ha.pa hw hs).imp' fun D σ H ⟨Hf, l, R, hh⟩ => to_bindM R hh fun es l1 vs H1 Hf1 R1 s1 r1 h1 => by
    split at h1
    · rename_i hz
      have hv : vs.length = 2 := (REVs.length _ _ r1).symm.trans hz.1
      match vs, hv, r1 with
      | [v, w], _, r1 => exact ⟨v, w, rfl, h1 _ _ Hf1 (REnv.putAll [i, j] _ _ _ _ R1 r1) (Same.refl _)⟩
    · exact h1.elim⟩
theorem ds_par3M {i j m : Nat} {x y z : Str} {a b d : Expr} {fm : LSt → Res (List EV)} {px py pz pt : Pos} {kt k2 pt2} (Z : Ctx X c W cn k) (hi : X.N[i]? = some x) (hj : X.N[j]? = some y) (hl : X.N[m]? = some z) (hij : i ≠ j) (hil : i ≠ m) (hjl : j ≠ m)
    (hx : X.env.scope.names.lookup x = some .local) (hy : X.env.scope.names.lookup y = some .local) (hzz : X.env.scope.names.lookup z = some .local) (ha : DM X c W [a, b, d] fm)
    (hw : swappedStores [.Tuple [.Name x px, .Name y py, .Name z pz] kt pt] (.Tuple [a, b, d] k2 pt2) X.env = pure (some [x, y, z]))
    (hs : swapsWithSole [.Tuple [.Name x px, .Name y py, .Name z pz] kt pt] (.Tuple [a, b, d] k2 pt2) pos.line X.env = pure false := by rfl) :
    DS X c W (.Assign [.Tuple [.Name x px, .Name y py, .Name z pz] kt pt] (.Tuple [a, b, d] k2 pt2) pos) (zParM [i, j, m] fm) :=
  ⟨(ps_par3 Z.calm Z.nd hi hj hl hij hil hjl hx hy hzz ha.pa hw hs).imp' fun D σ H ⟨Hf, l, R, hh⟩ => to_bindM R hh fun es l1 vs H1 Hf1 R1 s1 r1 h1 => by
    split at h1
    · rename_i hz
      have hv : vs.length = 3 := (REVs.length _ _ r1).symm.trans hz.1
      match vs, hv, r1 with
      | [u, v, w], _, r1 => exact ⟨u, v, w, rfl, h1 _ _ Hf1 (REnv.putAll [i, j, m] _ _ _ _ R1 r1) (Same.refl _)⟩
    · exact h1.elim⟩
end
end Dx

namespace K70
open PySem PySem.Spec PyProof.Rows L2 Dx
def ta_own_bottom : Nat → Option Nat := fun n => match n with
  | 0 => some 0
  | 1 => some 0
  | 3 => some 0
  | _ => none
def ta_own_coordinates : Nat → Option Nat := fun n => match n with
  | 5 => some 0
  | _ => none
def ta_own_counts : Nat → Option Nat := fun n => match n with
  | 5 => some 1
  | _ => none
def ta_own_entries : Nat → Option Nat := fun n => match n with
  | 3 => some 1
  | _ => none
def ta_own_ghosts : Nat → Option Nat := fun n => match n with
  | 5 => some 2
  | _ => none
def ta_own_line : Nat → Option Nat := fun n => match n with
  | 2 => some 0
  | _ => none
def ta_own_modulus : Nat → Option Nat := fun n => match n with
  | 3 => some 2
  | _ => none
def ta_own_numbers : Nat → Option Nat := fun n => match n with
  | 4 => some 0
  | _ => none
def ta_own_order : Nat → Option Nat := fun n => match n with
  | 3 => some 3
  | _ => none
def ta_own_top : Nat → Option Nat := fun n => match n with
  | 0 => some 1
  | 1 => some 1
  | _ => none
def ta_own_tops : Nat → Option Nat := fun n => match n with
  | 3 => some 4
  | _ => none
def xmT : Nat → Nat → Option Bool := fun n m => match n, m with
  | 7, 8 => some false
  | 7, 9 => some false
  | 7, 10 => some false
  | 7, 11 => some false
  | 7, 12 => some false
  | 7, 14 => some false
  | 8, 8 => some true
  | 8, 9 => some false
  | 8, 10 => some false
  | 8, 11 => some false
  | 8, 12 => some false
  | 8, 14 => some false
  | 9, 8 => some false
  | 9, 9 => some true
  | 9, 10 => some false
  | 9, 11 => some false
  | 9, 12 => some false
  | 9, 14 => some false
  | 10, 8 => some false
  | 10, 9 => some false
  | 10, 10 => some true
  | 10, 11 => some false
  | 10, 12 => some false
  | 10, 14 => some false
  | 11, 8 => some false
  | 11, 9 => some false
  | 11, 10 => some false
  | 11, 11 => some true
  | 11, 12 => some false
  | 11, 14 => some false
  | 12, 8 => some false
  | 12, 9 => some false
  | 12, 10 => some false
  | 12, 11 => some false
  | 12, 12 => some true
  | 12, 14 => some false
  | 14, 8 => some false
  | 14, 9 => some false
  | 14, 10 => some false
  | 14, 11 => some false
  | 14, 12 => some false
  | 14, 14 => some true
  | _, _ => none
def tkT : Nat → Bool := fun n => match n with
  | 0 => true
  | 1 => true
  | 2 => true
  | 3 => true
  | 4 => true
  | 5 => true
  | _ => false
def xfT_value : Nat → Bool := fun n => match n with
  | 14 => true
  | _ => false
def b_powers_in : LSt → Fl := (zSeq (zParD 1 2 3 (sCons (sVar 0) (sCons (sC (.int (2))) sNil)))
    (zSeq (zWhile (sTst (sBin leD (sBin mulD (sVar 3) (sVar 3)) (sVar 2))) (zSeq (zWhile (sTst (sBin eqX (sBin modD (sVar 2) (sVar 3)) (sC (.int (0))))) (zSeq (zDPut 1 (sVar 3) (sBin addD (sDGet2 1 (sVar 3) (sC (.int (0)))) (sC (.int (1)))))
    (zAug 2 divD (sVar 3))) 64)
    (zAug 3 (i2 fun i j => i + j) (sIf (sTst (sBin eqX (sVar 3) (sC (.int (2))))) (sC (.int (1))) (sC (.int (2)))))) 64)
    (zSeq (zIf (sTst (sBin gtD (sVar 2) (sC (.int (1))))) (zDPut 1 (sVar 2) (sBin addD (sDGet2 1 (sVar 2) (sC (.int (0)))) (sC (.int (1))))) zNext)
    (zRetV 1))))
def m_powers_in : Fm := mOf 4 1 b_powers_in
def b_divisors_in : LSt → Fl := (zSeq (zSet 1 (sFrz (sLst (sCons (sC (.int (1))) sNil))))
    (zSeq (zForI (sItm (sCall m_powers_in (sCons (sVar 0) sNil))) (gTupD 2 (gsCons (gSet 2) (gsCons (gSet 3) gsNil))) (zSeq (zAsg (sTup (sCons (sC (.int (1))) (sCons (sVar 1) sNil))) (gTupD 2 (gsCons (gSet 4) (gsCons (gSet 5) gsNil))))
    (zSeq (zForI (sWalk rng1D (sCons (sVar 3) sNil)) (gSet 6) (zSeq (zAug 4 mulI (sVar 2))
    (zSet 5 (sBin addD (sVar 5) (sFrz (sComp (sItems (sVar 1)) (gSet 7) sYes (sBin mulD (sVar 7) (sVar 4)) [7]))))))
    (zSet 1 (sVar 5)))))
    (zRet (sBlt srtD (sCons (sVar 1) sNil)))))
def m_divisors_in : Fm := mOf 8 1 b_divisors_in
def b_moebius_in : LSt → Fl := (zSeq (zSet 1 (sCall m_powers_in (sCons (sVar 0) sNil)))
    (zSeq (zIf (sTst (sBin gtD (sUn (maxVD (1)) (sVar 1)) (sC (.int (1))))) (zRet (sC (.int (0)))) zNext)
    (zRet (sIf (sTst (sBin eqX (sBin modD (sBlt lenD (sCons (sVar 1) sNil)) (sC (.int (2)))) (sC (.int (0))))) (sC (.int (1))) (sUn negD (sC (.int (1))))))))
def m_moebius_in : Fm := mOf 2 1 b_moebius_in
def b_test_total : LSt → Fl := (zRet (sBlt sumD (sCons (sFrz (sComp (sItems (sCall m_divisors_in (sCons (sVar 1) sNil))) (gSet 2) sYes (sBin mulD (sCall m_moebius_in (sCons (sBin divD (sVar 1) (sVar 2)) sNil)) (sBin ixD (sVar 0) (sBin subD (sVar 2) (sC (.int (1)))))) [2])) sNil)))
def m_test_total : Fm := mOf 3 2 b_test_total
def b_counts_in : LSt → Fl := (zRet (sBlt tupD (sCons (sFrz (sComp (sWalk rng2D (sCons (sC (.int (1))) (sCons (sBin addD (sBlt lenD (sCons (sVar 0) sNil)) (sC (.int (1)))) sNil))) (gSet 1) sYes (sBin divD (sCall m_test_total (sCons (sVar 0) (sCons (sVar 1) sNil))) (sVar 1)) [1])) sNil)))
def m_counts_in : Fm := mOf 2 1 b_counts_in
def b_is_plain : LSt → Fl := (zRet (sAndV (sUn (isiK tkT 0) (sVar 0)) (sUn notD (sUn (isiK tkT 1) (sVar 0)))))
def m_is_plain : Fm := mOf 1 1 b_is_plain
def b_is_short : LSt → Fl := (zRet (sAndV (sCall m_is_plain (sCons (sVar 0) sNil)) (sChain ltD ltD (sUn negD (sC (.int (1000000000000000000000000000000000000000000000000000000000000)))) (sVar 0) (sC (.int (1000000000000000000000000000000000000000000000000000000000000))))))
def m_is_short : Fm := mOf 1 1 b_is_short
def b_are_numbers : LSt → Fl := (zSeq (zIf (sOr (sNot (sTru (sUn (isiK tkT 3) (sVar 0)))) (sNot (sTst (sChain leD leD (sC (.int (1))) (sBlt lenD (sCons (sVar 0) sNil)) (sC (.int (24))))))) (zRet (sC (.bl false))) zNext)
    (zRet (sBlt allD (sCons (sFrz (sComp (sItems (sVar 0)) (gSet 1) sYes (sCall m_is_short (sCons (sVar 1) sNil)) [1])) sNil))))
def m_are_numbers : Fm := mOf 2 1 b_are_numbers
def b_require_numbers : LSt → Fl := (zIf (sNot (sTru (sCall m_are_numbers (sCons (sVar 0) sNil)))) (zRaise0 11) zNext)
def m_require_numbers : Fm := mOf 1 1 b_require_numbers
def b_fault_in : LSt → Fl := (zSeq (zForI (sWalk rng2D (sCons (sC (.int (1))) (sCons (sBin addD (sBlt lenD (sCons (sVar 0) sNil)) (sC (.int (1)))) sNil))) (gSet 1) (zIf (sTst (sBin neD (sBin modD (sCall m_test_total (sCons (sVar 0) (sCons (sVar 1) sNil))) (sVar 1)) (sC (.int (0))))) (zRet (sVar 1)) zNext))
    (zRet (sC .non)))
def m_fault_in : Fm := mOf 2 1 b_fault_in
def b_require_ghosts : LSt → Fl := (zSeq (zDrop (sCall m_require_numbers (sCons (sVar 0) sNil)))
    (zIf (sTst (sBin notND (sCall m_fault_in (sCons (sVar 0) sNil)) (sC .non))) (zRaise0 12) zNext))
def m_require_ghosts : Fm := mOf 1 1 b_require_ghosts
def b_counts_of : LSt → Fl := (zSeq (zDrop (sCall m_require_ghosts (sCons (sVar 0) sNil)))
    (zRet (sCall m_counts_in (sCons (sVar 0) sNil))))
def m_counts_of : Fm := mOf 1 1 b_counts_of
def b_is_integer : LSt → Fl := (zRet (sCall m_is_short (sCons (sVar 0) sNil)))
def m_is_integer : Fm := mOf 1 1 b_is_integer
def b_require_count : LSt → Fl := (zIf (sOr (sNot (sTru (sCall m_is_integer (sCons (sVar 0) sNil)))) (sNot (sTst (sChain leD leD (sVar 1) (sVar 0) (sVar 2))))) (zRaise 14 (sVar 0)) zNext)
def m_require_count : Fm := mOf 3 3 b_require_count
def b_is_prime : LSt → Fl := (zSeq (zIf (sOr (sNot (sTru (sCall m_is_plain (sCons (sVar 0) sNil)))) (sNot (sTst (sChain leD leD (sC (.int (2))) (sVar 0) (sC (.int (1000000000))))))) (zRet (sC (.bl false))) zNext)
    (zRet (sBin eqX (sUn valsD (sCall m_powers_in (sCons (sVar 0) sNil))) (sFrz (sLst (sCons (sC (.int (1))) sNil))))))
def m_is_prime : Fm := mOf 1 1 b_is_prime
def b_require_prime : LSt → Fl := (zIf (sOr (sNot (sTru (sCall m_is_prime (sCons (sVar 0) sNil)))) (sTst (sBin gtD (sVar 0) (sC (.int (997)))))) (zRaise0 10) zNext)
def m_require_prime : Fm := mOf 1 1 b_require_prime
def b_line_of : LSt → Fl := (zSeq (zIf (sTst (sBin gtD (sVar 2) (sC (.int (0))))) (zRet (sTup (sCons (sFrz (sComp (sItems (sVar 0)) (gSet 3) sYes (sBin modD (sVar 3) (sVar 2)) [3])) (sCons (sC (.int (1))) sNil)))) zNext)
    (zSeq (zSet 4 (sVar 1))
    (zSeq (zForI (sItems (sVar 0)) (gSet 3) (zSet 4 (sBlt gcdD (sCons (sVar 4) (sCons (sVar 3) sNil)))))
    (zSeq (zSet 4 (sIf (sTst (sBin ltD (sVar 1) (sC (.int (0))))) (sUn negD (sVar 4)) (sVar 4)))
    (zRet (sIf (sTst (sBin neD (sVar 4) (sC (.int (1))))) (sTup (sCons (sFrz (sComp (sItems (sVar 0)) (gSet 3) sYes (sBin divD (sVar 3) (sVar 4)) [3])) (sCons (sBin divD (sVar 1) (sVar 4)) sNil))) (sTup (sCons (sFrz (sLstOf (sVar 0))) (sCons (sVar 1) sNil)))))))))
def m_line_of : Fm := mOf 5 3 b_line_of
def b_line_of_pairs : LSt → Fl := (zSeq (zSet 1 (sC (.int (1))))
    (zSeq (zForI (sItems (sVar 0)) (gTupD 2 (gsCons (gSet 2) (gsCons (gSet 3) gsNil))) (zSet 1 (sBin divD (sBin mulD (sVar 1) (sVar 3)) (sBlt gcdD (sCons (sVar 1) (sCons (sVar 3) sNil))))))
    (zRet (sCall m_line_of (sCons (sFrz (sComp (sItems (sVar 0)) (gTupD 2 (gsCons (gSet 2) (gsCons (gSet 3) gsNil))) sYes (sBin mulD (sVar 2) (sBin divD (sVar 1) (sVar 3))) [2, 3])) (sCons (sVar 1) (sCons (sC (.int (0))) sNil)))))))
def m_line_of_pairs : Fm := mOf 4 1 b_line_of_pairs
def b_line_exp : LSt → Fl := (zSeq (zAsg (sVar 0) (gTupD 2 (gsCons (gSet 1) (gsCons (gSet 2) gsNil))))
    (zSeq (zParM [3, 4, 5, 6] (sMv (sBlt lenD (sCons (sVar 1) sNil)) (sMo (sLst (sCons (sC (.int (1))) sNil)) (sMo (sLst (sCons (sC (.int (1))) sNil)) (sMo (sLst (sCons (sC (.int (1))) sNil)) sMn)))))
    (zSeq (zForI (sWalk rng2D (sCons (sC (.int (1))) (sCons (sVar 3) sNil))) (gSet 7) (zSeq (zDrop (sApp 5 (sBin mulD (sOwnIx 5 (sUn negD (sC (.int (1))))) (sVar 7))))
    (zDrop (sApp 6 (sBin mulD (sOwnIx 6 (sUn negD (sC (.int (1))))) (sVar 2))))))
    (zSeq (zForI (sWalk rng2D (sCons (sC (.int (1))) (sCons (sVar 3) sNil))) (gSet 7) (zSeq (zSetO 8 (sComp (sWalk rng2D (sCons (sC (.int (1))) (sCons (sBin addD (sVar 7) (sC (.int (1)))) sNil))) (gSet 9) sYes (sBin mulD (sBin mulD (sBin mulD (sBin mulD (sVar 9) (sBin ixD (sVar 1) (sVar 9))) (sOwnIx 6 (sBin subD (sVar 9) (sC (.int (1)))))) (sBin divD (sOwnIx 5 (sBin subD (sVar 7) (sC (.int (1))))) (sOwnIx 5 (sBin subD (sVar 7) (sVar 9))))) (sOwnIx 4 (sBin subD (sVar 7) (sVar 9)))) [9]))
    (zDrop (sApp 4 (sBlt sumD (sCons (sVar 8) sNil))))))
    (zSeq (zSetO 10 (sComp (sWalk rng1D (sCons (sVar 3) sNil)) (gSet 7) sYes (sTup (sCons (sOwnIx 4 (sVar 7)) (sCons (sBin mulD (sOwnIx 5 (sVar 7)) (sOwnIx 6 (sVar 7))) sNil))) [7]))
    (zRet (sCall m_line_of_pairs (sCons (sVar 10) sNil))))))))
def m_line_exp : Fm := mOf 11 1 b_line_exp
def b_Made_init : LSt → Fl := (zSelf 0 ta_own_line (sVar 1))
def i_Made : Fm := mOfI 2 2 b_Made_init
def b_Terms_init : LSt → Fl := (zSeq (zSelf 0 ta_own_top (sVar 1))
    (zSelf 0 ta_own_bottom (sVar 2)))
def i_Terms : Fm := mOfI 3 3 b_Terms_init
def b_terms_of : LSt → Fl := (zSeq (zSet 2 (sBlt gcdD (sCons (sVar 0) (sCons (sVar 1) sNil))))
    (zSeq (zIf (sTst (sBin ltD (sVar 1) (sC (.int (0))))) (zSet 2 (sUn negD (sVar 2))) zNext)
    (zRet (sCall (mkC 0 i_Terms) (sCons (sBin divD (sVar 0) (sVar 2)) (sCons (sBin divD (sVar 1) (sVar 2)) sNil))))))
def m_terms_of : Fm := mOf 3 2 b_terms_of
def tj_Terms : Nat → Option Bool := fun n => match n with
  | 0 => some true
  | 1 => some false
  | 2 => some false
  | 3 => some false
  | 4 => some false
  | 5 => some false
  | _ => none
def b_told_terms : LSt → Fl := (zSeq (zIf (sTru (sUn (isoD tj_Terms) (sVar 0))) (zRet (sVar 0)) zNext)
    (zSeq (zIf (sNot (sTru (sCall m_is_short (sCons (sVar 0) sNil)))) (zRaise 14 (sVar 0)) zNext)
    (zSeq (zIf (sOr (sNot (sTru (sCall m_is_short (sCons (sVar 1) sNil)))) (sTst (sBin eqX (sVar 1) (sC (.int (0)))))) (zRaise 14 (sVar 1)) zNext)
    (zRet (sCall m_terms_of (sCons (sVar 0) (sCons (sVar 1) sNil)))))))
def m_told_terms : Fm := mOf 2 2 b_told_terms
def b_Ratio_init : LSt → Fl := (zSeq (zSet 3 (sCall m_told_terms (sCons (sVar 1) (sCons (sVar 2) sNil))))
    (zSeq (zSelf 0 ta_own_top (sAttr ta_own_top (sVar 3)))
    (zSelf 0 ta_own_bottom (sAttr ta_own_bottom (sVar 3)))))
def i_Ratio : Fm := mOfI 4 3 b_Ratio_init
def b_ratio_of : LSt → Fl := (zRet (sCall (mkC 1 (dfl i_Ratio (.int (1)))) (sCons (sCall m_terms_of (sCons (sVar 0) (sCons (sVar 1) sNil))) sNil)))
def m_ratio_of : Fm := mOf 2 2 b_ratio_of
def b_require_modulus : LSt → Fl := (zIf (sOr (sNot (sTru (sCall m_is_integer (sCons (sVar 0) sNil)))) (sOr (sTst (sBin ltD (sVar 0) (sC (.int (0))))) (sOr (sTst (sBin eqX (sVar 0) (sC (.int (1))))) (sTst (sBin gtD (sVar 0) (sC (.int (10000)))))))) (zRaise0 8) zNext)
def m_require_modulus : Fm := mOf 1 1 b_require_modulus
def tj_Ratio : Nat → Option Bool := fun n => match n with
  | 0 => some false
  | 1 => some true
  | 2 => some false
  | 3 => some false
  | 4 => some false
  | 5 => some false
  | _ => none
def b_is_number : LSt → Fl := (zRet (sOrV (sUn (isoD tj_Ratio) (sVar 0)) (sCall m_is_integer (sCons (sVar 0) sNil))))
def m_is_number : Fm := mOf 1 1 b_is_number
def b_number_pair : LSt → Fl := (zRet (sIf (sTru (sUn (isoD tj_Ratio) (sVar 0))) (sTup (sCons (sAttr ta_own_top (sVar 0)) (sCons (sAttr ta_own_bottom (sVar 0)) sNil))) (sTup (sCons (sVar 0) (sCons (sC (.int (1))) sNil)))))
def m_number_pair : Fm := mOf 1 1 b_number_pair
def b_is_number_of : LSt → Fl := (zRet (sOrV (sCall m_is_integer (sCons (sVar 1) sNil)) (sAndV (sBin eqX (sVar 0) (sC (.int (0)))) (sUn (isoD tj_Ratio) (sVar 1)))))
def m_is_number_of : Fm := mOf 2 2 b_is_number_of
def tj_Made : Nat → Option Bool := fun n => match n with
  | 0 => some false
  | 1 => some false
  | 2 => some true
  | 3 => some false
  | 4 => some false
  | 5 => some false
  | _ => none
def b_line_told : LSt → Fl := (zSeq (zIf (sTru (sUn (isoD tj_Made) (sVar 0))) (zRet (sAttr ta_own_line (sVar 0))) zNext)
    (zSeq (zIf (sOr (sNot (sTru (sUn (isiK tkT 3) (sVar 0)))) (sNot (sTst (sChain leD leD (sC (.int (1))) (sBlt lenD (sCons (sVar 0) sNil)) (sBin addD (sC (.int (24))) (sC (.int (1)))))))) (zRaise0 9) zNext)
    (zSeq (zIf (sNot (sTru (sBlt allD (sCons (sFrz (sComp (sItems (sVar 0)) (gSet 2) sYes (sCall m_is_number (sCons (sVar 2) sNil)) [2])) sNil)))) (zRaise0 9) zNext)
    (zSeq (zDrop (sCall m_require_modulus (sCons (sVar 1) sNil)))
    (zSeq (zIf (sNot (sTru (sBlt allD (sCons (sFrz (sComp (sItems (sVar 0)) (gSet 2) sYes (sCall m_is_number_of (sCons (sVar 1) (sCons (sVar 2) sNil))) [2])) sNil)))) (zRaise0 9) zNext)
    (zSeq (zIf (sTst (sBin gtD (sVar 1) (sC (.int (0))))) (zRet (sCall m_line_of (sCons (sFrz (sLstOf (sVar 0))) (sCons (sC (.int (1))) (sCons (sVar 1) sNil))))) zNext)
    (zRet (sCall m_line_of_pairs (sCons (sFrz (sComp (sItems (sVar 0)) (gSet 2) sYes (sCall m_number_pair (sCons (sVar 2) sNil)) [2])) sNil)))))))))
def m_line_told : Fm := mOf 3 2 b_line_told
def b_Row_init : LSt → Fl := (zSeq (zSet 3 (sCall m_line_told (sCons (sVar 1) (sCons (sVar 2) sNil))))
    (zSeq (zAsg (sTup (sCons (sBlt tupD (sCons (sBin ixD (sVar 3) (sC (.int (0)))) sNil)) (sCons (sBin ixD (sVar 3) (sC (.int (1)))) sNil))) (gTupD 2 (gsCons (gSet 4) (gsCons (gSet 5) gsNil))))
    (zSeq (zSelf 0 ta_own_tops (sVar 4))
    (zSeq (zSelf 0 ta_own_bottom (sVar 5))
    (zSeq (zSelf 0 ta_own_modulus (sVar 2))
    (zSeq (zSelf 0 ta_own_order (sUn nextD (sVar 4)))
    (zSelf 0 ta_own_entries (sIf (sTst (sBin gtD (sVar 2) (sC (.int (0))))) (sVar 4) (sBlt tupD (sCons (sFrz (sComp (sItems (sVar 4)) (gSet 6) sYes (sCall m_ratio_of (sCons (sVar 6) (sCons (sVar 5) sNil))) [6])) sNil))))))))))
def i_Row : Fm := mOfI 7 3 b_Row_init
def b_row_with : LSt → Fl := (zRet (sCallK 1 1 (mkC 3 i_Row) (sCons (sCall (mkC 2 i_Made) (sCons (sIf (sTru (sVar 2)) (sVar 0) (sCall m_line_of (sCons (sBin ixD (sVar 0) (sC (.int (0)))) (sCons (sBin ixD (sVar 0) (sC (.int (1)))) (sCons (sVar 1) sNil))))) sNil)) sNil) (sCons (sVar 1) sNil)))
def m_row_with : Fm := mOf 3 3 b_row_with
def b_row_in : LSt → Fl := (zSeq (zSet 1 (sFrz (sLst (sCons (sTup (sCons (sC (.int (0))) (sCons (sC (.int (1))) sNil))) (sStar (sFrz (sComp (sWalk enum1D (sCons (sVar 0) sNil)) (gTupD 2 (gsCons (gSet 2) (gsCons (gSet 3) gsNil))) sYes (sTup (sCons (sVar 3) (sCons (sBin addD (sVar 2) (sC (.int (1)))) sNil))) [2, 3])) sNil)))))
    (zRet (sCall (dfl m_row_with (.bl true)) (sCons (sCall m_line_exp (sCons (sCall m_line_of_pairs (sCons (sVar 1) sNil)) sNil)) (sCons (sC (.int (0))) sNil)))))
def m_row_in : Fm := mOf 4 1 b_row_in
def b_artin_row : LSt → Fl := (zSeq (zDrop (sCall m_require_prime (sCons (sVar 0) sNil)))
    (zSeq (zDrop (sCall m_require_count (sCons (sVar 1) (sCons (sC (.int (1))) (sCons (sC (.int (24))) sNil)))))
    (zSeq (zParM [2, 3] (sMo (sRepO (sFrz (sLst (sCons (sC (.int (0))) sNil))) (sVar 1)) (sMv (sC (.int (1))) sMn)))
    (zSeq (zWhile (sTst (sBin leD (sVar 3) (sVar 1))) (zSeq (zOwnSet 2 (sBin subD (sVar 3) (sC (.int (1)))) (sC (.int (1))))
    (zAug 3 mulI (sVar 0))) 64)
    (zRet (sCall m_row_in (sCons (sVar 2) sNil)))))))
def m_artin_row : Fm := mOf 4 2 b_artin_row
def b__law_dice : LSt → Fl := (zSeq (zSet 2 (sIf (sTst (sBin ltD (sVar 1) (sBlt lenD (sCons (sVar 0) sNil)))) (sBlt intD (sCons (sBin ixD (sVar 0) (sVar 1)) sNil)) (sBin addD (sBin mulD (sC (.int (71))) (sVar 1)) (sC (.int (23))))))
    (zSeq (zSet 3 (sBin modD (sBlt maxD (sCons (sC (.int (0))) (sCons (sBin subD (sBlt absD (sCons (sVar 2) sNil)) (sBin powD (sC (.int (10))) (sC (.int (17))))) sNil))) (sBin mulD (sBin powD (sC (.int (10))) (sC (.int (60)))) (sBin powD (sC (.int (10))) (sC (.int (57)))))))
    (zRetO (sLst (sCons (sVar 3) (sCons (sBin addD (sBin addD (sBin addD (sBin mulD (sBin modD (sBlt absD (sCons (sVar 2) sNil)) (sC (.int (1152921504606846803)))) (sC (.int (59)))) (sBin mulD (sC (.int (877))) (sVar 1))) (sBin mulD (sC (.int (47))) (sBlt intD (sCons (sBin ltD (sVar 2) (sC (.int (0)))) sNil)))) (sC (.int (5)))) (sCons (sC (.int (0))) sNil)))))))
def m__law_dice : Fm := mOf 4 2 b__law_dice
def b__law_met : (G → FR) → LSt → Fl := fun t => (zSeq (zTry xmT [(11, none, (zRet (sC (.str "ghosts")))), (9, none, (zRet (sC (.str "row")))), (10, none, (zRet (sC (.str "prime")))), (8, none, (zRet (sC (.str "modulus")))), (12, none, (zRet (sC (.str "operation")))), (14, some 1, (zRet (sBin addD (sC (.str "count ")) (sBlt reprX (sCons (sErr 1 xfT_value) sNil)))))] (zDrop (sTk 0 t)))
    (zRet (sC (.str "fine"))))
def m__law_met : (G → FR) → G → FR := mThk 2 b__law_met
def b_ghost_fault : LSt → Fl := (zSeq (zDrop (sCall m_require_numbers (sCons (sVar 0) sNil)))
    (zRet (sCall m_fault_in (sCons (sVar 0) sNil))))
def m_ghost_fault : Fm := mOf 1 1 b_ghost_fault
def b_ghost_row : LSt → Fl := (zSeq (zDrop (sCall m_require_numbers (sCons (sVar 0) sNil)))
    (zRet (sCall m_row_in (sCons (sVar 0) sNil))))
def m_ghost_row : Fm := mOf 1 1 b_ghost_row
def b__law_roll : LSt → Fl := (zSeq (zIf (sTst (sBin gtD (sDie 0 0) (sC (.int (0))))) (zSeq (zSet 2 (sBin modD (sBlt intD (sCons (sDie 0 0) sNil)) (sVar 1)))
    (zSeq (zDie 0 0 (sBin divD (sDie 0 0) (sVar 1)))
    (zRet (sVar 2)))) zNext)
    (zSeq (zDie 0 2 (sBin addD (sDie 0 2) (sC (.int (1)))))
    (zSeq (zSet 3 (sBin modD (sBlt intD (sCons (sBin addD (sDie 0 1) (sBin mulD (sC (.int (86028157))) (sDie 0 2))) sNil)) (sC (.int (2305843009213693613)))))
    (zSeq (zSet 4 (sBin addD (sBin mulD (sBin modD (sBlt intD (sCons (sBin addD (sBin mulD (sVar 3) (sVar 3)) (sBin mulD (sC (.int (97))) (sDie 0 2))) sNil)) (sC (.int (2305843009213693669)))) (sC (.int (7654321)))) (sVar 3)))
    (zRet (sBin modD (sBlt intD (sCons (sBin divD (sVar 4) (sC (.int (131072)))) sNil)) (sVar 1)))))))
def m__law_roll : Fm := mOf 5 2 b__law_roll
def b__law_pick : LSt → Fl := (zRet (sBin ixD (sVar 1) (sCall m__law_roll (sCons (sVar 0) (sCons (sBlt lenD (sCons (sVar 1) sNil)) sNil)))))
def m__law_pick : Fm := mOf 2 2 b__law_pick
def b_Ratio___eq__ : LSt → Fl := (zSeq (zIf (sNot (sTru (sUn (isoD tj_Ratio) (sVar 1)))) (zRet (sC (.bl false))) zNext)
    (zRet (sAndV (sBin eqX (sAttr ta_own_top (sVar 0)) (sAttr ta_own_top (sVar 1))) (sBin eqX (sAttr ta_own_bottom (sVar 0)) (sAttr ta_own_bottom (sVar 1))))))
def m_Ratio___eq__ : Fm := mOf 2 2 b_Ratio___eq__
def tj_Row : Nat → Option Bool := fun n => match n with
  | 0 => some false
  | 1 => some false
  | 2 => some false
  | 3 => some true
  | 4 => some false
  | 5 => some false
  | _ => none
def b_Row___eq__ : LSt → Fl := (zSeq (zIf (sOr (sNot (sTru (sUn (isoD tj_Row) (sVar 1)))) (sTst (sBin neD (sAttr ta_own_modulus (sVar 0)) (sAttr ta_own_modulus (sVar 1))))) (zRet (sC (.bl false))) zNext)
    (zRet (sAndV (sBin eqX (sAttr ta_own_tops (sVar 0)) (sAttr ta_own_tops (sVar 1))) (sBin eqX (sAttr ta_own_bottom (sVar 0)) (sAttr ta_own_bottom (sVar 1))))))
def m_Row___eq__ : Fm := mOf 2 2 b_Row___eq__
def b_power_of : LSt → Fl := (zSeq (zSet 2 (sC (.int (1))))
    (zSeq (zForI (sWalk rng1D (sCons (sVar 1) sNil)) (gSet 3) (zAug 2 mulI (sVar 0)))
    (zRet (sVar 2))))
def m_power_of : Fm := mOf 4 2 b_power_of
def b_coordinate_total : LSt → Fl := (zRet (sBlt sumD (sCons (sFrz (sComp (sItems (sVar 2)) (gSet 3) sYes (sBin mulD (sVar 3) (sCall m_power_of (sCons (sBin ixD (sVar 0) (sBin subD (sVar 3) (sC (.int (1))))) (sCons (sBin divD (sVar 1) (sVar 3)) sNil)))) [3])) sNil)))
def m_coordinate_total : Fm := mOf 4 3 b_coordinate_total
def b_ghosts_in : LSt → Fl := (zSeq (zSet 1 (sBlt rngVD (sCons (sC (.int (1))) (sCons (sBin addD (sBlt lenD (sCons (sVar 0) sNil)) (sC (.int (1)))) sNil))))
    (zRet (sBlt tupD (sCons (sFrz (sComp (sItemsR (sVar 1)) (gSet 2) sYes (sCall m_coordinate_total (sCons (sVar 0) (sCons (sVar 2) (sCons (sCall m_divisors_in (sCons (sVar 2) sNil)) sNil)))) [2])) sNil))))
def m_ghosts_in : Fm := mOf 3 1 b_ghosts_in
def tj_Told : Nat → Option Bool := fun n => match n with
  | 0 => some false
  | 1 => some false
  | 2 => some false
  | 3 => some false
  | 4 => some true
  | 5 => some false
  | _ => none
def b_told_coordinates : LSt → Fl := (zSeq (zIf (sTru (sUn (isoD tj_Told) (sVar 0))) (zRet (sAttr ta_own_numbers (sVar 0))) zNext)
    (zSeq (zDrop (sCall m_require_numbers (sCons (sVar 0) sNil)))
    (zRet (sVar 0))))
def m_told_coordinates : Fm := mOf 1 1 b_told_coordinates
def b_Witt_init : LSt → Fl := (zSeq (zSelf 0 ta_own_coordinates (sCall m_told_coordinates (sCons (sVar 1) sNil)))
    (zSeq (zSelf 0 ta_own_ghosts (sCall m_ghosts_in (sCons (sSelf 0 ta_own_coordinates) sNil)))
    (zSelf 0 ta_own_counts (sCall m_counts_in (sCons (sSelf 0 ta_own_ghosts) sNil)))))
def i_Witt : Fm := mOfI 2 2 b_Witt_init
def b_require_integer : LSt → Fl := (zIf (sNot (sTru (sCall m_is_integer (sCons (sVar 0) sNil)))) (zRaise 14 (sVar 0)) zNext)
def m_require_integer : Fm := mOf 1 1 b_require_integer
def b_Witt_single : LSt → Fl := (zSeq (zDrop (sCall m_require_integer (sCons (sVar 1) sNil)))
    (zSeq (zDrop (sCall m_require_count (sCons (sVar 2) (sCons (sC (.int (1))) (sCons (sC (.int (24))) sNil)))))
    (zRet (sCallC 0 5 1 0 (mkC 5 i_Witt) (sCons (sTup (sCons (sVar 1) (sStar (sFrz (sComp (sWalk rng1D (sCons (sBin subD (sVar 2) (sC (.int (1)))) sNil)) (gSet 3) sYes (sC (.int (0))) [3])) sNil))) sNil) sNil))))
def m_Witt_single : Fm := mOf 4 3 b_Witt_single
def b_coordinates_in : LSt → Fl := (zSeq (zSetO 1 (sLst sNil))
    (zSeq (zForI (sWalk enum1D (sCons (sVar 0) sNil)) (gTupD 2 (gsCons (gSet 2) (gsCons (gSet 3) gsNil))) (zSeq (zSet 4 (sThaw 1 (sCall m_coordinate_total (sCons (sVar 1) (sCons (sBin addD (sVar 2) (sC (.int (1)))) (sCons (sSl (sCall m_divisors_in (sCons (sBin addD (sVar 2) (sC (.int (1)))) sNil)) sNoP (sPt (sUn negD (sC (.int (1)))))) sNil))))))
    (zDrop (sApp 1 (sBin divD (sBin subD (sVar 3) (sVar 4)) (sBin addD (sVar 2) (sC (.int (1)))))))))
    (zRet (sBlt tupD (sCons (sVar 1) sNil)))))
def m_coordinates_in : Fm := mOf 5 1 b_coordinates_in
def b_Told_init : LSt → Fl := (zSelf 0 ta_own_numbers (sVar 1))
def i_Told : Fm := mOfI 2 2 b_Told_init
def b_Witt_of_ghosts : LSt → Fl := (zSeq (zDrop (sCall m_require_ghosts (sCons (sVar 1) sNil)))
    (zRet (sCallC 0 5 1 0 (mkC 5 i_Witt) (sCons (sCall (mkC 4 i_Told) (sCons (sCall m_coordinates_in (sCons (sVar 1) sNil)) sNil)) sNil) sNil)))
def m_Witt_of_ghosts : Fm := mOf 2 2 b_Witt_of_ghosts
def b_require_row : LSt → Fl := (zIf (sNot (sTru (sUn (isoD tj_Row) (sVar 0)))) (zRaise0 9) zNext)
def m_require_row : Fm := mOf 1 1 b_require_row
def b_ghosts_of_entries : LSt → Fl := (zSeq (zSetO 1 (sLst sNil))
    (zSeq (zForI (sWalk rng2D (sCons (sC (.int (1))) (sCons (sBlt lenD (sCons (sVar 0) sNil)) sNil))) (gSet 2) (zSeq (zSet 3 (sBlt sumD (sCons (sFrz (sComp (sWalk rng2D (sCons (sC (.int (1))) (sCons (sVar 2) sNil))) (gSet 4) sYes (sBin mulD (sOwnIx 1 (sBin subD (sVar 4) (sC (.int (1))))) (sBin ixD (sVar 0) (sBin subD (sVar 2) (sVar 4)))) [4])) sNil)))
    (zDrop (sApp 1 (sBin subD (sBin mulD (sVar 2) (sBin ixD (sVar 0) (sVar 2))) (sVar 3))))))
    (zRetV 1)))
def m_ghosts_of_entries : Fm := mOf 5 1 b_ghosts_of_entries
def b_Row_degree : LSt → Fl := (zRet (sBin subD (sBlt lenD (sCons (sAttr ta_own_tops (sVar 0)) sNil)) (sC (.int (1)))))
def m_Row_degree : Fm := mOf 1 1 b_Row_degree
def b_Row_is_whole : LSt → Fl := (zRet (sAndV (sBin eqX (sAttr ta_own_modulus (sVar 0)) (sC (.int (0)))) (sBin eqX (sAttr ta_own_bottom (sVar 0)) (sC (.int (1))))))
def m_Row_is_whole : Fm := mOf 1 1 b_Row_is_whole
def b_Witt_degree : LSt → Fl := (zRet (sBlt lenD (sCons (sAttr ta_own_coordinates (sVar 0)) sNil)))
def m_Witt_degree : Fm := mOf 1 1 b_Witt_degree
def tp_degree : Nat → Option Fm := fun n => match n with
  | 3 => some m_Row_degree
  | 5 => some m_Witt_degree
  | _ => none
def tp_is_whole : Nat → Option Fm := fun n => match n with
  | 3 => some m_Row_is_whole
  | _ => none
def b_Witt_of_row : LSt → Fl := (zSeq (zDrop (sCall m_require_row (sCons (sVar 1) sNil)))
    (zSeq (zIf (sOr (sNot (sTru (sPrp tp_is_whole (sVar 1)))) (sOr (sTst (sBin ltD (sPrp tp_degree (sVar 1)) (sC (.int (1))))) (sTst (sBin neD (sBin ixD (sAttr ta_own_tops (sVar 1)) (sC (.int (0)))) (sC (.int (1))))))) (zRaise0 12) zNext)
    (zRet (sCallC 0 5 1 0 (mkC 5 i_Witt) (sCons (sCall (mkC 4 i_Told) (sCons (sCall m_coordinates_in (sCons (sCall m_ghosts_of_entries (sCons (sAttr ta_own_tops (sVar 1)) sNil)) sNil)) sNil)) sNil) sNil))))
def m_Witt_of_row : Fm := mOf 2 2 b_Witt_of_row
def tj_Witt : Nat → Option Bool := fun n => match n with
  | 0 => some false
  | 1 => some false
  | 2 => some false
  | 3 => some false
  | 4 => some false
  | 5 => some true
  | _ => none
def b_Witt___eq__ : LSt → Fl := (zRet (sAndV (sUn (isoD tj_Witt) (sVar 1)) (sBin eqX (sAttr ta_own_coordinates (sVar 0)) (sAttr ta_own_coordinates (sVar 1)))))
def m_Witt___eq__ : Fm := mOf 2 2 b_Witt___eq__
def teqT : Nat → Option Fm := fun n => match n with
  | 1 => some m_Ratio___eq__
  | 3 => some m_Row___eq__
  | 5 => some m_Witt___eq__
  | _ => none
def b__law_made_right : LSt → Fl := (zSeq (zSet 1 (sCall m__law_pick (sCons (sVar 0) (sCons (sFrz (sLst (sCons (sC .non) (sCons (sTup sNil) (sCons (sFrz (sLst (sCons (sC (.int (1))) (sCons (sC (.int (3))) sNil)))) (sCons (sTup (sCons (sC (.int (1))) (sCons (sC .non) sNil))) (sCons (sTup (sCons (sC (.bl true)) sNil)) (sCons (sC (.str "13")) (sCons (sBin mulD (sTup (sCons (sC (.int (1))) sNil)) (sC (.int (25)))) (sCons (sTup (sCons (sBin powD (sC (.int (10))) (sC (.int (60)))) sNil)) (sCons (sC (.int (5))) (sCons (sTup (sCons (sCall (mkC 1 (dfl i_Ratio (.int (1)))) (sCons (sC (.int (1))) sNil)) sNil)) sNil)))))))))))) sNil))))
    (zSeq (zSet 2 (sCall m__law_pick (sCons (sVar 0) (sCons (sFrz (sLst (sCons (sTup (sCons (sC (.int (1))) (sCons (sC (.int (2))) sNil))) (sCons (sTup (sCons (sC (.int (0))) (sCons (sC (.int (1))) sNil))) (sCons (sTup (sCons (sC (.int (1))) (sCons (sC (.int (1))) (sCons (sC (.int (2))) sNil)))) (sCons (sTup (sCons (sC (.int (5))) (sCons (sC (.int (2))) (sCons (sC (.int (5))) sNil)))) sNil)))))) sNil))))
    (zSeq (zSet 3 (sCall m__law_pick (sCons (sVar 0) (sCons (sFrz (sLst (sCons (sC .non) (sCons (sTup (sCons (sC (.int (1))) (sCons (sC (.int (1))) sNil))) (sCons (sC (.str "1 + x")) (sCons (sC (.int (1))) (sCons (sFrz (sLst (sCons (sC (.int (1))) (sCons (sC (.int (1))) sNil)))) (sCons (sCall (mkC 5 i_Witt) (sCons (sTup (sCons (sC (.int (1))) (sCons (sC (.int (2))) sNil))) sNil)) sNil)))))))) sNil))))
    (zSeq (zSet 4 (sCall m__law_pick (sCons (sVar 0) (sCons (sFrz (sLst (sCons (sCall (mkC 3 (dfl i_Row (.int (0)))) (sCons (sTup (sCons (sC (.int (1))) sNil)) sNil)) (sCons (sCall (mkC 3 (dfl i_Row (.int (0)))) (sCons (sTup (sCons (sC (.int (0))) (sCons (sC (.int (1))) sNil))) sNil)) (sCons (sCall (mkC 3 (dfl i_Row (.int (0)))) (sCons (sTup (sCons (sC (.int (2))) (sCons (sC (.int (1))) sNil))) sNil)) (sCons (sCall (mkC 3 (dfl i_Row (.int (0)))) (sCons (sTup (sCons (sC (.int (1))) (sCons (sCall (mkC 1 i_Ratio) (sCons (sC (.int (1))) (sCons (sC (.int (2))) sNil))) sNil))) sNil)) (sCons (sCallK 1 1 (mkC 3 i_Row) (sCons (sTup (sCons (sC (.int (1))) (sCons (sC (.int (1))) sNil))) sNil) (sCons (sC (.int (3))) sNil)) (sCons (sCall (mkC 3 (dfl i_Row (.int (0)))) (sCons (sTup (sCons (sUn negD (sC (.int (1)))) (sCons (sC (.int (1))) sNil))) sNil)) sNil)))))))) sNil))))
    (zSeq (zSet 5 (sCall m__law_pick (sCons (sVar 0) (sCons (sFrz (sLst (sCons (sC .non) (sCons (sC (.int (1))) (sCons (sC (.int (4))) (sCons (sC (.int (0))) (sCons (sUn negD (sC (.int (3)))) (sCons (sC (.int (1009))) (sCons (sC (.bl true)) (sCons (sC (.str "2")) (sCons (sBin powD (sC (.int (10))) (sC (.int (60)))) sNil))))))))))) sNil))))
    (zSeq (zSet 6 (sCall m__law_pick (sCons (sVar 0) (sCons (sFrz (sLst (sCons (sC (.int (0))) (sCons (sC (.int (25))) (sCons (sUn negD (sC (.int (1)))) (sCons (sC .non) (sCons (sC (.bl true)) (sCons (sC (.str "1")) (sCons (sBin powD (sC (.int (10))) (sC (.int (60)))) sNil))))))))) sNil))))
    (zSeq (zSet 7 (sCall m__law_pick (sCons (sVar 0) (sCons (sFrz (sLst (sCons (sC .non) (sCons (sC (.bl true)) (sCons (sC (.str "1")) (sCons (sBin powD (sC (.int (10))) (sC (.int (60)))) (sCons (sTup (sCons (sC (.int (1))) sNil)) sNil))))))) sNil))))
    (zSeq (zSetO 8 (sLst (sCons (sThk m__law_met (sCall m_ghost_fault (sCons (sVar 1) sNil))) sNil)))
    (zSeq (zDrop (sApp 8 (sThk m__law_met (sCall m_ghost_row (sCons (sVar 1) sNil)))))
    (zSeq (zDrop (sApp 8 (sThk m__law_met (sCall m_counts_of (sCons (sVar 1) sNil)))))
    (zSeq (zDrop (sApp 8 (sThk m__law_met (sCall m_counts_of (sCons (sVar 2) sNil)))))
    (zSeq (zDrop (sApp 8 (sThk m__law_met (sCall (mkC 5 i_Witt) (sCons (sVar 1) sNil)))))
    (zSeq (zDrop (sApp 8 (sThk m__law_met (sCm 5 1 0 m_Witt_of_ghosts (sCons (sVar 1) sNil) sNil))))
    (zSeq (zDrop (sApp 8 (sThk m__law_met (sCm 5 1 0 m_Witt_of_ghosts (sCons (sVar 2) sNil) sNil))))
    (zSeq (zDrop (sApp 8 (sThk m__law_met (sCm 5 1 0 m_Witt_of_row (sCons (sVar 3) sNil) sNil))))
    (zSeq (zDrop (sApp 8 (sThk m__law_met (sCm 5 1 0 m_Witt_of_row (sCons (sVar 4) sNil) sNil))))
    (zSeq (zDrop (sApp 8 (sThk m__law_met (sCm 5 2 0 m_Witt_single (sCons (sVar 7) (sCons (sVar 6) sNil)) sNil))))
    (zSeq (zDrop (sApp 8 (sThk m__law_met (sCm 5 2 0 m_Witt_single (sCons (sC (.int (1))) (sCons (sVar 6) sNil)) sNil))))
    (zSeq (zDrop (sApp 8 (sThk m__law_met (sCall m_artin_row (sCons (sVar 5) (sCons (sVar 6) sNil))))))
    (zSeq (zDrop (sApp 8 (sThk m__law_met (sCall m_artin_row (sCons (sC (.int (2))) (sCons (sVar 6) sNil))))))
    (zSeq (zSet 9 (sFrz (sLst (sCons (sC (.str "ghosts")) (sCons (sC (.str "ghosts")) (sCons (sC (.str "ghosts")) (sCons (sC (.str "operation")) (sCons (sC (.str "ghosts")) (sCons (sC (.str "ghosts")) (sCons (sC (.str "operation")) (sCons (sC (.str "row")) (sCons (sC (.str "operation")) sNil))))))))))))
    (zRet (sBin (eqY teqT tkT) (sVar 8) (sBin addD (sVar 9) (sFrz (sLst (sCons (sBin addD (sC (.str "count ")) (sBlt reprX (sCons (sVar 7) sNil))) (sCons (sBin addD (sC (.str "count ")) (sBlt reprX (sCons (sVar 6) sNil))) (sCons (sC (.str "prime")) (sCons (sBin addD (sC (.str "count ")) (sBlt reprX (sCons (sVar 6) sNil))) sNil))))))))))))))))))))))))))))))
def m__law_made_right : Fm := mOf 10 1 b__law_made_right
def b_pair_of : LSt → Fl := (zSeq (zIf (sTru (sUn (isoD tj_Ratio) (sVar 0))) (zRet (sTup (sCons (sAttr ta_own_top (sVar 0)) (sCons (sAttr ta_own_bottom (sVar 0)) sNil)))) zNext)
    (zSeq (zIf (sNot (sTru (sCall m_is_short (sCons (sVar 0) sNil)))) (zRaise0 7) zNext)
    (zRet (sTup (sCons (sVar 0) (sCons (sC (.int (1))) sNil))))))
def m_pair_of : Fm := mOf 1 1 b_pair_of
def b_Ratio_plus : LSt → Fl := (zSeq (zAsg (sCall m_pair_of (sCons (sVar 1) sNil)) (gTupD 2 (gsCons (gSet 2) (gsCons (gSet 3) gsNil))))
    (zRet (sCall m_ratio_of (sCons (sBin addD (sBin mulD (sAttr ta_own_top (sVar 0)) (sVar 3)) (sBin mulD (sVar 2) (sAttr ta_own_bottom (sVar 0)))) (sCons (sBin mulD (sAttr ta_own_bottom (sVar 0)) (sVar 3)) sNil)))))
def m_Ratio_plus : Fm := mOf 4 2 b_Ratio_plus
def b_Ratio_minus : LSt → Fl := (zSeq (zAsg (sCall m_pair_of (sCons (sVar 1) sNil)) (gTupD 2 (gsCons (gSet 2) (gsCons (gSet 3) gsNil))))
    (zRet (sCall m_ratio_of (sCons (sBin subD (sBin mulD (sAttr ta_own_top (sVar 0)) (sVar 3)) (sBin mulD (sVar 2) (sAttr ta_own_bottom (sVar 0)))) (sCons (sBin mulD (sAttr ta_own_bottom (sVar 0)) (sVar 3)) sNil)))))
def m_Ratio_minus : Fm := mOf 4 2 b_Ratio_minus
def b_Ratio_times : LSt → Fl := (zSeq (zAsg (sCall m_pair_of (sCons (sVar 1) sNil)) (gTupD 2 (gsCons (gSet 2) (gsCons (gSet 3) gsNil))))
    (zRet (sCall m_ratio_of (sCons (sBin mulD (sAttr ta_own_top (sVar 0)) (sVar 2)) (sCons (sBin mulD (sAttr ta_own_bottom (sVar 0)) (sVar 3)) sNil)))))
def m_Ratio_times : Fm := mOf 4 2 b_Ratio_times
def b_line_sum : LSt → Fl := (zSeq (zAsg (sTup (sCons (sVar 0) (sCons (sVar 1) sNil))) (gTupD 2 (gsCons (gTupD 2 (gsCons (gSet 4) (gsCons (gSet 5) gsNil))) (gsCons (gTupD 2 (gsCons (gSet 6) (gsCons (gSet 7) gsNil))) gsNil))))
    (zSeq (zSetO 8 (sComp (sWalk zip2D (sCons (sVar 4) (sCons (sVar 6) sNil))) (gTupD 2 (gsCons (gSet 9) (gsCons (gSet 10) gsNil))) sYes (sBin addD (sBin mulD (sVar 9) (sVar 7)) (sBin mulD (sBin mulD (sVar 2) (sVar 10)) (sVar 5))) [9, 10]))
    (zRet (sCall m_line_of (sCons (sVar 8) (sCons (sBin mulD (sVar 5) (sVar 7)) (sCons (sVar 3) sNil)))))))
def m_line_sum : Fm := mOf 11 4 b_line_sum
def b_line_in : LSt → Fl := (zRet (sTup (sCons (sAttr ta_own_tops (sVar 0)) (sCons (sAttr ta_own_bottom (sVar 0)) sNil))))
def m_line_in : Fm := mOf 1 1 b_line_in
def b_require_like : LSt → Fl := (zSeq (zDrop (sCall m_require_row (sCons (sVar 1) sNil)))
    (zIf (sTst (sBin neD (sAttr ta_own_modulus (sVar 0)) (sAttr ta_own_modulus (sVar 1)))) (zRaise0 12) zNext))
def m_require_like : Fm := mOf 2 2 b_require_like
def b_Row_plus : LSt → Fl := (zSeq (zDrop (sCall m_require_like (sCons (sVar 0) (sCons (sVar 1) sNil))))
    (zRet (sCall (dfl m_row_with (.bl true)) (sCons (sCall m_line_sum (sCons (sCall m_line_in (sCons (sVar 0) sNil)) (sCons (sCall m_line_in (sCons (sVar 1) sNil)) (sCons (sC (.int (1))) (sCons (sAttr ta_own_modulus (sVar 0)) sNil))))) (sCons (sAttr ta_own_modulus (sVar 0)) sNil)))))
def m_Row_plus : Fm := mOf 2 2 b_Row_plus
def b_Row_minus : LSt → Fl := (zSeq (zDrop (sCall m_require_like (sCons (sVar 0) (sCons (sVar 1) sNil))))
    (zRet (sCall (dfl m_row_with (.bl true)) (sCons (sCall m_line_sum (sCons (sCall m_line_in (sCons (sVar 0) sNil)) (sCons (sCall m_line_in (sCons (sVar 1) sNil)) (sCons (sUn negD (sC (.int (1)))) (sCons (sAttr ta_own_modulus (sVar 0)) sNil))))) (sCons (sAttr ta_own_modulus (sVar 0)) sNil)))))
def m_Row_minus : Fm := mOf 2 2 b_Row_minus
def b_line_times : LSt → Fl := (zSeq (zAsg (sTup (sCons (sVar 0) (sCons (sVar 1) sNil))) (gTupD 2 (gsCons (gTupD 2 (gsCons (gSet 3) (gsCons (gSet 4) gsNil))) (gsCons (gTupD 2 (gsCons (gSet 5) (gsCons (gSet 6) gsNil))) gsNil))))
    (zSeq (zSet 7 (sBlt minD (sCons (sBlt lenD (sCons (sVar 3) sNil)) (sCons (sBlt lenD (sCons (sVar 5) sNil)) sNil))))
    (zSeq (zSetO 8 (sRepO (sFrz (sLst (sCons (sC (.int (0))) sNil))) (sVar 7)))
    (zSeq (zForI (sWalk rng1D (sCons (sVar 7) sNil)) (gSet 9) (zSeq (zSet 10 (sBin ixD (sVar 3) (sVar 9)))
    (zIf (sTst (sBin neD (sVar 10) (sC (.int (0))))) (zForI (sWalk rng1D (sCons (sBin subD (sVar 7) (sVar 9)) sNil)) (gSet 11) (zOwnAug 8 (i2 fun i j => i + j) (sBin addD (sVar 9) (sVar 11)) (sBin mulD (sVar 10) (sBin ixD (sVar 5) (sVar 11))))) zNext)))
    (zRet (sCall m_line_of (sCons (sVar 8) (sCons (sBin mulD (sVar 4) (sVar 6)) (sCons (sVar 2) sNil)))))))))
def m_line_times : Fm := mOf 12 3 b_line_times
def b_Row_times : LSt → Fl := (zSeq (zDrop (sCall m_require_like (sCons (sVar 0) (sCons (sVar 1) sNil))))
    (zRet (sCall (dfl m_row_with (.bl true)) (sCons (sCall m_line_times (sCons (sCall m_line_in (sCons (sVar 0) sNil)) (sCons (sCall m_line_in (sCons (sVar 1) sNil)) (sCons (sAttr ta_own_modulus (sVar 0)) sNil)))) (sCons (sAttr ta_own_modulus (sVar 0)) sNil)))))
def m_Row_times : Fm := mOf 2 2 b_Row_times
def b_Row_cut : LSt → Fl := (zSeq (zDrop (sCall m_require_count (sCons (sVar 1) (sCons (sC (.int (0))) (sCons (sBin subD (sBlt lenD (sCons (sAttr ta_own_tops (sVar 0)) sNil)) (sC (.int (1)))) sNil)))))
    (zRet (sCall (dfl m_row_with (.bl true)) (sCons (sCall m_line_of (sCons (sSl (sAttr ta_own_tops (sVar 0)) sNoP (sPt (sBin addD (sVar 1) (sC (.int (1)))))) (sCons (sAttr ta_own_bottom (sVar 0)) (sCons (sAttr ta_own_modulus (sVar 0)) sNil)))) (sCons (sAttr ta_own_modulus (sVar 0)) sNil)))))
def m_Row_cut : Fm := mOf 2 2 b_Row_cut
def b_ghosts_told : LSt → Fl := (zSeq (zIf (sNot (sTru (sUn (isoD tj_Witt) (sVar 0)))) (zRaise0 11) zNext)
    (zRet (sAttr ta_own_ghosts (sVar 0))))
def m_ghosts_told : Fm := mOf 1 1 b_ghosts_told
def b_witt_made : LSt → Fl := (zRet (sCall (mkC 5 i_Witt) (sCons (sCall (mkC 4 i_Told) (sCons (sCall m_coordinates_in (sCons (sVar 0) sNil)) sNil)) sNil)))
def m_witt_made : Fm := mOf 1 1 b_witt_made
def b_Witt_plus : LSt → Fl := (zRet (sCall m_witt_made (sCons (sFrz (sComp (sWalk zip2D (sCons (sAttr ta_own_ghosts (sVar 0)) (sCons (sCall m_ghosts_told (sCons (sVar 1) sNil)) sNil))) (gTupD 2 (gsCons (gSet 2) (gsCons (gSet 3) gsNil))) sYes (sBin addD (sVar 2) (sVar 3)) [2, 3])) sNil)))
def m_Witt_plus : Fm := mOf 4 2 b_Witt_plus
def b_Witt_minus : LSt → Fl := (zRet (sCall m_witt_made (sCons (sFrz (sComp (sWalk zip2D (sCons (sAttr ta_own_ghosts (sVar 0)) (sCons (sCall m_ghosts_told (sCons (sVar 1) sNil)) sNil))) (gTupD 2 (gsCons (gSet 2) (gsCons (gSet 3) gsNil))) sYes (sBin subD (sVar 2) (sVar 3)) [2, 3])) sNil)))
def m_Witt_minus : Fm := mOf 4 2 b_Witt_minus
def b_Witt_times : LSt → Fl := (zRet (sCall m_witt_made (sCons (sFrz (sComp (sWalk zip2D (sCons (sAttr ta_own_ghosts (sVar 0)) (sCons (sCall m_ghosts_told (sCons (sVar 1) sNil)) sNil))) (gTupD 2 (gsCons (gSet 2) (gsCons (gSet 3) gsNil))) sYes (sBin mulD (sVar 2) (sVar 3)) [2, 3])) sNil)))
def m_Witt_times : Fm := mOf 4 2 b_Witt_times
def b_Witt_moved : LSt → Fl := (zSeq (zDrop (sCall m_require_count (sCons (sVar 1) (sCons (sC (.int (1))) (sCons (sC (.int (24))) sNil)))))
    (zSeq (zSetO 2 (sRepO (sFrz (sLst (sCons (sC (.int (0))) sNil))) (sBlt lenD (sCons (sAttr ta_own_ghosts (sVar 0)) sNil))))
    (zSeq (zForI (sWalk rng3D (sCons (sVar 1) (sCons (sBin addD (sThaw 2 (sBlt lenD (sCons (sVar 2) sNil))) (sC (.int (1)))) (sCons (sVar 1) sNil)))) (gSet 3) (zOwnSet 2 (sBin subD (sVar 3) (sC (.int (1)))) (sBin mulD (sVar 1) (sBin ixD (sAttr ta_own_ghosts (sVar 0)) (sBin subD (sBin divD (sVar 3) (sVar 1)) (sC (.int (1))))))))
    (zRet (sCall m_witt_made (sCons (sVar 2) sNil))))))
def m_Witt_moved : Fm := mOf 4 2 b_Witt_moved
def b_Witt_taken : LSt → Fl := (zSeq (zDrop (sCall m_require_count (sCons (sVar 1) (sCons (sC (.int (1))) (sCons (sC (.int (24))) sNil)))))
    (zSeq (zIf (sTst (sBin gtD (sVar 1) (sBlt lenD (sCons (sAttr ta_own_ghosts (sVar 0)) sNil)))) (zRaise0 12) zNext)
    (zRet (sCall m_witt_made (sCons (sFrz (sLstOf (sSl3 (sAttr ta_own_ghosts (sVar 0)) (sPt (sBin subD (sVar 1) (sC (.int (1))))) sNoP (sPt (sVar 1))))) sNil)))))
def m_Witt_taken : Fm := mOf 2 2 b_Witt_taken
def b_Witt_cut : LSt → Fl := (zSeq (zDrop (sCall m_require_count (sCons (sVar 1) (sCons (sC (.int (1))) (sCons (sBlt lenD (sCons (sAttr ta_own_coordinates (sVar 0)) sNil)) sNil)))))
    (zRet (sCall (mkC 5 i_Witt) (sCons (sCall (mkC 4 i_Told) (sCons (sSl (sAttr ta_own_coordinates (sVar 0)) sNoP (sPt (sVar 1))) sNil)) sNil))))
def m_Witt_cut : Fm := mOf 2 2 b_Witt_cut
def b_Witt_rests : LSt → Fl := (zSeq (zIf (sOr (sNot (sTru (sCall m_is_short (sCons (sVar 1) sNil)))) (sNot (sTst (sChain leD leD (sC (.int (2))) (sVar 1) (sC (.int (10000))))))) (zRaise0 8) zNext)
    (zRet (sBlt tupD (sCons (sFrz (sComp (sItems (sAttr ta_own_coordinates (sVar 0))) (gSet 2) sYes (sBin modD (sVar 2) (sVar 1)) [2])) sNil))))
def m_Witt_rests : Fm := mOf 3 2 b_Witt_rests
def tm_cut : Nat → Option Fm := fun n => match n with
  | 3 => some m_Row_cut
  | 5 => some m_Witt_cut
  | _ => none
def tm_minus : Nat → Option Fm := fun n => match n with
  | 1 => some m_Ratio_minus
  | 3 => some m_Row_minus
  | 5 => some m_Witt_minus
  | _ => none
def tm_moved : Nat → Option Fm := fun n => match n with
  | 5 => some m_Witt_moved
  | _ => none
def tm_plus : Nat → Option Fm := fun n => match n with
  | 1 => some m_Ratio_plus
  | 3 => some m_Row_plus
  | 5 => some m_Witt_plus
  | _ => none
def tm_rests : Nat → Option Fm := fun n => match n with
  | 5 => some m_Witt_rests
  | _ => none
def tm_taken : Nat → Option Fm := fun n => match n with
  | 5 => some m_Witt_taken
  | _ => none
def tm_times : Nat → Option Fm := fun n => match n with
  | 1 => some m_Ratio_times
  | 3 => some m_Row_times
  | 5 => some m_Witt_times
  | _ => none
def b__law_used_right : LSt → Fl := (zSeq (zSet 1 (sCall (mkC 5 i_Witt) (sCons (sTup (sCons (sC (.int (1))) (sCons (sC (.int (2))) (sCons (sUn negD (sC (.int (1)))) sNil)))) sNil)))
    (zSeq (zSet 2 (sCall m__law_pick (sCons (sVar 0) (sCons (sFrz (sLst (sCons (sC .non) (sCons (sC (.int (1))) (sCons (sTup (sCons (sC (.int (1))) (sCons (sC (.int (2))) (sCons (sUn negD (sC (.int (1)))) sNil)))) (sCons (sC (.str "witt 1 2 -1")) (sCons (sCall (mkC 3 (dfl i_Row (.int (0)))) (sCons (sTup (sCons (sC (.int (1))) (sCons (sC (.int (1))) sNil))) sNil)) (sCons (sFrz (sLst (sCons (sVar 1) sNil))) sNil)))))))) sNil))))
    (zSeq (zSet 3 (sCall m__law_pick (sCons (sVar 0) (sCons (sFrz (sLst (sCons (sC (.int (0))) (sCons (sC (.int (25))) (sCons (sUn negD (sC (.int (1)))) (sCons (sC .non) (sCons (sC (.bl true)) (sCons (sC (.str "1")) (sCons (sBin powD (sC (.int (10))) (sC (.int (60)))) sNil))))))))) sNil))))
    (zSeq (zSet 4 (sCall m__law_pick (sCons (sVar 0) (sCons (sFrz (sLst (sCons (sC (.int (0))) (sCons (sC (.int (4))) (sCons (sUn negD (sC (.int (1)))) (sCons (sC .non) (sCons (sC (.bl true)) (sCons (sC (.str "1")) (sCons (sBin powD (sC (.int (10))) (sC (.int (60)))) sNil))))))))) sNil))))
    (zSeq (zSet 5 (sCall m__law_pick (sCons (sVar 0) (sCons (sFrz (sLst (sCons (sC (.int (0))) (sCons (sC (.int (1))) (sCons (sUn negD (sC (.int (2)))) (sCons (sC (.int (10001))) (sCons (sC .non) (sCons (sC (.bl true)) (sCons (sC (.str "2")) (sCons (sBin powD (sC (.int (10))) (sC (.int (60)))) sNil)))))))))) sNil))))
    (zSeq (zSetO 6 (sLst (sCons (sThk m__law_met (sMth tm_plus (sVar 1) (sCons (sVar 2) sNil))) sNil)))
    (zSeq (zDrop (sApp 6 (sThk m__law_met (sMth tm_minus (sVar 1) (sCons (sVar 2) sNil)))))
    (zSeq (zDrop (sApp 6 (sThk m__law_met (sMth tm_times (sVar 1) (sCons (sVar 2) sNil)))))
    (zSeq (zDrop (sApp 6 (sThk m__law_met (sMth tm_moved (sVar 1) (sCons (sVar 3) sNil)))))
    (zSeq (zDrop (sApp 6 (sThk m__law_met (sMth tm_moved (sVar 1) (sCons (sC (.int (4))) sNil)))))
    (zSeq (zDrop (sApp 6 (sThk m__law_met (sMth tm_taken (sVar 1) (sCons (sVar 3) sNil)))))
    (zSeq (zDrop (sApp 6 (sThk m__law_met (sMth tm_taken (sVar 1) (sCons (sC (.int (4))) sNil)))))
    (zSeq (zDrop (sApp 6 (sThk m__law_met (sMth tm_taken (sVar 1) (sCons (sC (.int (24))) sNil)))))
    (zSeq (zDrop (sApp 6 (sThk m__law_met (sMth tm_cut (sVar 1) (sCons (sVar 4) sNil)))))
    (zSeq (zDrop (sApp 6 (sThk m__law_met (sMth tm_rests (sVar 1) (sCons (sVar 5) sNil)))))
    (zSeq (zSet 7 (sBin addD (sBin mulD (sFrz (sLst (sCons (sC (.str "ghosts")) sNil))) (sC (.int (3)))) (sFrz (sLst (sCons (sBin addD (sC (.str "count ")) (sBlt reprX (sCons (sVar 3) sNil))) (sCons (sC (.str "fine")) (sCons (sBin addD (sC (.str "count ")) (sBlt reprX (sCons (sVar 3) sNil))) (sCons (sC (.str "operation")) (sCons (sC (.str "operation")) sNil)))))))))
    (zSeq (zIf (sTst (sBin (neY teqT tkT) (sVar 6) (sBin addD (sVar 7) (sFrz (sLst (sCons (sBin addD (sC (.str "count ")) (sBlt reprX (sCons (sVar 4) sNil))) (sCons (sC (.str "modulus")) sNil))))))) (zRet (sC (.bl false))) zNext)
    (zRet (sAndV (sBin (neY teqT tkT) (sVar 1) (sVar 2)) (sAndV (sBin (neY teqT tkT) (sVar 1) (sCall (mkC 5 i_Witt) (sCons (sTup (sCons (sC (.int (1))) (sCons (sC (.int (2))) sNil))) sNil))) (sAndV (sBin (eqY teqT tkT) (sVar 1) (sCall (mkC 5 i_Witt) (sCons (sTup (sCons (sC (.int (1))) (sCons (sC (.int (2))) (sCons (sUn negD (sC (.int (1)))) sNil)))) sNil))) (sBin (neY teqT tkT) (sVar 1) (sCall (mkC 5 i_Witt) (sCons (sTup (sCons (sC (.int (1))) (sCons (sC (.int (2))) (sCons (sC (.int (1))) sNil)))) sNil))))))))))))))))))))))))
def m__law_used_right : Fm := mOf 8 1 b__law_used_right
def b_law : LSt → Fl := (zSeq (zForI (sWalk rng1D (sCons (sBlt maxD (sCons (sC (.int (1))) (sCons (sBlt minD (sCons (sC (.int (3))) (sCons (sBlt lenD (sCons (sVar 0) sNil)) sNil))) sNil))) sNil)) (gSet 1) (zSeq (zSetO 2 (sCallO m__law_dice (sCons (sVar 0) (sCons (sVar 1) sNil))))
    (zIf (sOr (sNot (sTru (sLend 2 m__law_made_right sNil))) (sNot (sTru (sLend 2 m__law_used_right sNil)))) (zRet (sC (.bl false))) zNext)))
    (zSeq (zSetO 3 (sLst (sCons (sThk m__law_met (sCall m_counts_of (sCons (sTup (sCons (sBin subD (sBin powD (sC (.int (10))) (sC (.int (60)))) (sC (.int (1)))) sNil)) sNil))) sNil)))
    (zSeq (zDrop (sApp 3 (sThk m__law_met (sCall m_artin_row (sCons (sC (.int (997))) (sCons (sC (.int (24))) sNil))))))
    (zRet (sAndV (sBin (eqY teqT tkT) (sVar 3) (sFrz (sLst (sCons (sC (.str "fine")) (sCons (sC (.str "fine")) sNil))))) (sBin (eqY teqT tkT) (sC (.int (24))) (sC (.int (24)))))))))
def m_law : Fm := mOf 4 1 b_law
end K70

namespace K70
open PySem PySem.Spec PyProof.Rows L2 Dx
structure Gs (mg : Str → Option Value) : Prop where
  c_FAR : ∃ t, mg "FAR" = some (.int (1000000000000000000000000000000000000000000000000000000000000) t)
  c_MAX_FACTORED : ∃ t, mg "MAX_FACTORED" = some (.int (1000000000) t)
  c_MAX_GHOSTS : ∃ t, mg "MAX_GHOSTS" = some (.int (24) t)
  c_MAX_ROW : ∃ t, mg "MAX_ROW" = some (.int (24) t)
  c_MOST_MODULUS_ghosts : ∃ t, mg "MOST_MODULUS_ghosts" = some (.int (10000) t)
  c_MOST_MODULUS_rows : ∃ t, mg "MOST_MODULUS_rows" = some (.int (10000) t)
  c_MOST_PRIME : ∃ t, mg "MOST_PRIME" = some (.int (997) t)
  f_abs : mg "abs" = none
  f_all : mg "all" = none
  f_bool : mg "bool" = none
  f_enumerate : mg "enumerate" = none
  b_gcd : mg "gcd" = some (.builtin "math.gcd")
  f_int : mg "int" = none
  f_isinstance : mg "isinstance" = none
  f_len : mg "len" = none
  f_list : mg "list" = none
  f_max : mg "max" = none
  f_min : mg "min" = none
  f_next : mg "next" = none
  f_range : mg "range" = none
  f_repr : mg "repr" = none
  f_sorted : mg "sorted" = none
  f_sum : mg "sum" = none
  f_tuple : mg "tuple" = none
  f_zip : mg "zip" = none
section
variable {P : Program} {w : World} {K : PySem.W.Frag} {mg : Str → Option Value} {base : Heap} {cn : Cn} {f : Addr} {fd : FuncData}
structure T_powers_in (P : Program) (w : World) (K : PySem.W.Frag) (mg : Str → Option Value) (base : Heap) (cn : Cn) : Prop where
  u : True
theorem S_powers_in : FnScope ["number", "found", "left", "factor"] ["number"] (defScope s_powers_in) := ⟨rfl, rfl, rfl, by decide +kernel, rfl, by decide +kernel, by decide +kernel⟩
theorem R_powers_in (hK : K = cn.K) (G : Gs mg) (T : T_powers_in P w K mg base cn) (F : FunD K "powers_in" "powers_in" (defArgs s_powers_in) (defBody s_powers_in) (defScope s_powers_in) [] [] f fd) : Dx.FnR P w K mg base (L2.CX P w) 2 f (spF cn m_powers_in) :=
  fn0 (k := 1) hK F S_powers_in (FunD.bindsN F fun _ _ _ _ _ _ us hl => match us, hl with | [_], _ => rfl) fun cdv A outer s H E c Z =>
    (dss_cons (ds_parD (i := 1) (j := 2) (l := 3) Z.calm Z.nd rfl rfl rfl (by decide) (by decide) (by decide) rfl rfl rfl (fun c1 h1 => (da_cons (e_var 0) (da_cons de_int da_nil))) (by rfl))
    (dss_cons (ds_while 64 Z.pass (t_le (e_mul Z (e_var 3) (e_var 3)) (e_var 2)) (dss_cons (ds_while 64 Z.pass (t_eqX Z (e_mod (e_var 2) (e_var 3)) de_int) (dss_cons (ds_dput (i := 1) (by have := Z.hr.units; omega) (pv 1) (e_var 3) (e_add Z (de_dget2 (i := 1) (by have := Z.hr.units; omega) (pv 1) (e_var 3) de_int ⟨rfl, rfl, rfl, rfl⟩) de_int))
    (dss_one (s_adiv 2 Z (e_var 3)))))
    (dss_one (s_aadd 3 Z (de_ifExp (t_eqX Z (e_var 3) de_int) de_int de_int)))))
    (dss_cons (ds_if (t_gt (e_var 2) de_int) (dss_one (ds_dput (i := 1) (by have := Z.hr.units; omega) (pv 1) (e_var 2) (e_add Z (de_dget2 (i := 1) (by have := Z.hr.units; omega) (pv 1) (e_var 2) de_int ⟨rfl, rfl, rfl, rfl⟩) de_int))) dss_nil)
    (dss_one (ds_retV (i := 1) (pv 1))))))
structure T_divisors_in (P : Program) (w : World) (K : PySem.W.Frag) (mg : Str → Option Value) (base : Heap) (cn : Cn) : Prop where
  d_powers_in : Cal P w K mg base cn 2 "powers_in" m_powers_in
theorem S_divisors_in : FnScope ["number", "found", "prime", "many", "power", "longer", "turn", "one"] ["number"] (defScope s_divisors_in) := ⟨rfl, rfl, rfl, by decide +kernel, rfl, by decide +kernel, by decide +kernel⟩
theorem R_divisors_in (hK : K = cn.K) (G : Gs mg) (T : T_divisors_in P w K mg base cn) (F : FunD K "divisors_in" "divisors_in" (defArgs s_divisors_in) (defBody s_divisors_in) (defScope s_divisors_in) [] [] f fd) : Dx.FnR P w K mg base (L2.CX P w) 4 f (spF cn m_divisors_in) :=
  fn0 (k := 3) hK F S_divisors_in (FunD.bindsN F fun _ _ _ _ _ _ us hl => match us, hl with | [_], _ => rfl) fun cdv A outer s H E c Z =>
    (dss_cons (ds_set (g_name 1 Z) (de_frz (do_lst (da_cons de_int da_nil))))
    (dss_cons (ds_for Z.pass Z.calm (di_items (e_call Z T.d_powers_in (by decide) (da_cons (e_var 0) da_nil))) (dg_tup Z.calm Z.hK (dgs_cons (dg_name (g_nm 2 Z.nd)) (dgs_cons (dg_name (g_nm 3 Z.nd)) dgs_nil))) (dss_cons (ds_asg (de_tup (da_cons de_int (da_cons (e_var 1) da_nil))) (dg_tup Z.calm Z.hK (dgs_cons (dg_name (g_nm 4 Z.nd)) (dgs_cons (dg_name (g_nm 5 Z.nd)) dgs_nil))))
    (dss_cons (ds_for Z.pass Z.calm (di_range1 (by rfl) G.f_range (da_cons (e_var 3) da_nil)) (dg_name (g_nm 6 Z.nd)) (dss_cons (s_amul 4 Z (e_var 2))
    (dss_one (ds_set (g_name 5 Z) (e_add Z (e_var 5) (de_frz (do_lc (own := [("one", 7)]) Z.calm Z.nd (r_list Z (e_var 1)) (blkOk_by (N := ["number", "found", "prime", "many", "power", "longer", "turn", "one"]) (sc := defScope s_divisors_in) (own := [("one", 7)]) (by decide +kernel)) (by decide) (fun s H C cl fp => (dg_name (g_nm 7 Z.nd))) (fun s H C cl fp c1 h1 => dts_nil) (fun s H C cl fp c1 h1 => (e_mul (Ctx.blk Z h1 s H _ _ fp) (e_var 7) (e_var 4))))))))))
    (dss_one (ds_set (g_name 1 Z) (e_var 5))))))
    (dss_one (ds_ret (e_sorted Z G.f_sorted (e_var 1))))))
structure T_moebius_in (P : Program) (w : World) (K : PySem.W.Frag) (mg : Str → Option Value) (base : Heap) (cn : Cn) : Prop where
  d_powers_in : Cal P w K mg base cn 2 "powers_in" m_powers_in
theorem S_moebius_in : FnScope ["number", "powers"] ["number"] (defScope s_moebius_in) := ⟨rfl, rfl, rfl, by decide +kernel, rfl, by decide +kernel, by decide +kernel⟩
theorem R_moebius_in (hK : K = cn.K) (G : Gs mg) (T : T_moebius_in P w K mg base cn) (F : FunD K "moebius_in" "moebius_in" (defArgs s_moebius_in) (defBody s_moebius_in) (defScope s_moebius_in) [] [] f fd) : Dx.FnR P w K mg base (L2.CX P w) 4 f (spF cn m_moebius_in) :=
  fn0 (k := 3) hK F S_moebius_in (FunD.bindsN F fun _ _ _ _ _ _ us hl => match us, hl with | [_], _ => rfl) fun cdv A outer s H E c Z =>
    (dss_cons (ds_set (g_name 1 Z) (e_call Z T.d_powers_in (by decide) (da_cons (e_var 0) da_nil)))
    (dss_cons (ds_if (t_gt (e_maxV Z G.f_max (e_var 1)) de_int) (dss_one (ds_ret de_int)) dss_nil)
    (dss_one (ds_ret (de_ifExp (t_eqX Z (e_mod (e_len Z G.f_len (e_var 1)) de_int) de_int) de_int (e_neg de_int))))))
structure T_test_total (P : Program) (w : World) (K : PySem.W.Frag) (mg : Str → Option Value) (base : Heap) (cn : Cn) : Prop where
  d_divisors_in : Cal P w K mg base cn 4 "divisors_in" m_divisors_in
  d_moebius_in : Cal P w K mg base cn 4 "moebius_in" m_moebius_in
theorem S_test_total : FnScope ["numbers", "number", "part"] ["numbers", "number"] (defScope s_test_total) := ⟨rfl, rfl, rfl, by decide +kernel, rfl, by decide +kernel, by decide +kernel⟩
theorem R_test_total (hK : K = cn.K) (G : Gs mg) (T : T_test_total P w K mg base cn) (F : FunD K "test_total" "test_total" (defArgs s_test_total) (defBody s_test_total) (defScope s_test_total) [] [] f fd) : Dx.FnR P w K mg base (L2.CX P w) 6 f (spF cn m_test_total) :=
  fn0 (k := 5) hK F S_test_total (FunD.bindsN F fun _ _ _ _ _ _ us hl => match us, hl with | [_, _], _ => rfl) fun cdv A outer s H E c Z =>
    (dss_one (ds_ret (e_sum Z G.f_sum (de_frz (do_lc (own := [("part", 2)]) Z.calm Z.nd (r_list Z (e_call Z T.d_divisors_in (by decide) (da_cons (e_var 1) da_nil))) (blkOk_by (N := ["numbers", "number", "part"]) (sc := defScope s_test_total) (own := [("part", 2)]) (by decide +kernel)) (by decide) (fun s H C cl fp => (dg_name (g_nm 2 Z.nd))) (fun s H C cl fp c1 h1 => dts_nil) (fun s H C cl fp c1 h1 => (e_mul (Ctx.blk Z h1 s H _ _ fp) (e_call (Ctx.blk Z h1 s H _ _ fp) T.d_moebius_in (by decide) (da_cons (e_div (e_var 1) (e_var 2)) da_nil)) (e_ix (Ctx.blk Z h1 s H _ _ fp) (e_var 0) (e_sub (e_var 2) de_int)))))))))
structure T_counts_in (P : Program) (w : World) (K : PySem.W.Frag) (mg : Str → Option Value) (base : Heap) (cn : Cn) : Prop where
  d_test_total : Cal P w K mg base cn 6 "test_total" m_test_total
theorem S_counts_in : FnScope ["numbers", "number"] ["numbers"] (defScope s_counts_in) := ⟨rfl, rfl, rfl, by decide +kernel, rfl, by decide +kernel, by decide +kernel⟩
theorem R_counts_in (hK : K = cn.K) (G : Gs mg) (T : T_counts_in P w K mg base cn) (F : FunD K "counts_in" "counts_in" (defArgs s_counts_in) (defBody s_counts_in) (defScope s_counts_in) [] [] f fd) : Dx.FnR P w K mg base (L2.CX P w) 8 f (spF cn m_counts_in) :=
  fn0 (k := 7) hK F S_counts_in (FunD.bindsN F fun _ _ _ _ _ _ us hl => match us, hl with | [_], _ => rfl) fun cdv A outer s H E c Z =>
    (dss_one (ds_ret (e_tuple Z G.f_tuple (de_frz (do_lc (own := [("number", 1)]) Z.calm Z.nd (di_range2 (by rfl) G.f_range (da_cons de_int (da_cons (e_add Z (e_len Z G.f_len (e_var 0)) de_int) da_nil))) (blkOk_by (N := ["numbers", "number"]) (sc := defScope s_counts_in) (own := [("number", 1)]) (by decide +kernel)) (by decide) (fun s H C cl fp => (dg_name (g_nm 1 Z.nd))) (fun s H C cl fp c1 h1 => dts_nil) (fun s H C cl fp c1 h1 => (e_div (e_call (Ctx.blk Z h1 s H _ _ fp) T.d_test_total (by decide) (da_cons (e_var 0) (da_cons (e_var 1) da_nil))) (e_var 1))))))))
structure T_is_plain (P : Program) (w : World) (K : PySem.W.Frag) (mg : Str → Option Value) (base : Heap) (cn : Cn) : Prop where
  ik : IskOk cn tkT
theorem S_is_plain : FnScope ["value"] ["value"] (defScope s_is_plain) := ⟨rfl, rfl, rfl, by decide +kernel, rfl, by decide +kernel, by decide +kernel⟩
theorem R_is_plain (hK : K = cn.K) (G : Gs mg) (T : T_is_plain P w K mg base cn) (F : FunD K "is_plain" "is_plain" (defArgs s_is_plain) (defBody s_is_plain) (defScope s_is_plain) [] [] f fd) : Dx.FnR P w K mg base (L2.CX P w) 2 f (spF cn m_is_plain) :=
  fn0 (k := 1) hK F S_is_plain (FunD.bindsN F fun _ _ _ _ _ _ us hl => match us, hl with | [_], _ => rfl) fun cdv A outer s H E c Z =>
    (dss_one (ds_ret (de_and (e_isiK 0 (by decide) Z T.ik G.f_isinstance (e_var 0) G.f_int) (de_one (de_not (e_isiK 1 (by decide) Z T.ik G.f_isinstance (e_var 0) G.f_bool))))))
structure T_is_short (P : Program) (w : World) (K : PySem.W.Frag) (mg : Str → Option Value) (base : Heap) (cn : Cn) : Prop where
  d_is_plain : Cal P w K mg base cn 2 "is_plain" m_is_plain
theorem S_is_short : FnScope ["value"] ["value"] (defScope s_is_short) := ⟨rfl, rfl, rfl, by decide +kernel, rfl, by decide +kernel, by decide +kernel⟩
theorem R_is_short (hK : K = cn.K) (G : Gs mg) (T : T_is_short P w K mg base cn) (F : FunD K "is_short" "is_short" (defArgs s_is_short) (defBody s_is_short) (defScope s_is_short) [] [] f fd) : Dx.FnR P w K mg base (L2.CX P w) 4 f (spF cn m_is_short) :=
  fn0 (k := 3) hK F S_is_short (FunD.bindsN F fun _ _ _ _ _ _ us hl => match us, hl with | [_], _ => rfl) fun cdv A outer s H E c Z =>
    (dss_one (ds_ret (de_and (e_call Z T.d_is_plain (by decide) (da_cons (e_var 0) da_nil)) (de_one (de_chain op_lt ok_cmpI op_lt ok_cmpI (e_neg (de_gint (by rfl) G.c_FAR)) (e_var 0) (de_gint (by rfl) G.c_FAR))))))
structure T_are_numbers (P : Program) (w : World) (K : PySem.W.Frag) (mg : Str → Option Value) (base : Heap) (cn : Cn) : Prop where
  d_is_short : Cal P w K mg base cn 4 "is_short" m_is_short
  ik : IskOk cn tkT
theorem S_are_numbers : FnScope ["value", "number"] ["value"] (defScope s_are_numbers) := ⟨rfl, rfl, rfl, by decide +kernel, rfl, by decide +kernel, by decide +kernel⟩
theorem R_are_numbers (hK : K = cn.K) (G : Gs mg) (T : T_are_numbers P w K mg base cn) (F : FunD K "are_numbers" "are_numbers" (defArgs s_are_numbers) (defBody s_are_numbers) (defScope s_are_numbers) [] [] f fd) : Dx.FnR P w K mg base (L2.CX P w) 6 f (spF cn m_are_numbers) :=
  fn0 (k := 5) hK F S_are_numbers (FunD.bindsN F fun _ _ _ _ _ _ us hl => match us, hl with | [_], _ => rfl) fun cdv A outer s H E c Z =>
    (dss_cons (ds_if (dt_w (dw_or (dt_not (t_tru Z (e_isiK 3 (by decide) Z T.ik G.f_isinstance (e_var 0) G.f_tuple))) (dw_or1 (dt_not (dt_chain op_le ok_cmpI op_le ok_cmpI de_int (e_len Z G.f_len (e_var 0)) (de_gint (by rfl) G.c_MAX_GHOSTS)))))) (dss_one (ds_ret de_bl)) dss_nil)
    (dss_one (ds_ret (e_all Z G.f_all (de_frz (do_lc (own := [("number", 1)]) Z.calm Z.nd (r_list Z (e_var 0)) (blkOk_by (N := ["value", "number"]) (sc := defScope s_are_numbers) (own := [("number", 1)]) (by decide +kernel)) (by decide) (fun s H C cl fp => (dg_name (g_nm 1 Z.nd))) (fun s H C cl fp c1 h1 => dts_nil) (fun s H C cl fp c1 h1 => (e_call (Ctx.blk Z h1 s H _ _ fp) T.d_is_short (by decide) (da_cons (e_var 1) da_nil)))))))))
structure T_require_numbers (P : Program) (w : World) (K : PySem.W.Frag) (mg : Str → Option Value) (base : Heap) (cn : Cn) : Prop where
  d_are_numbers : Cal P w K mg base cn 6 "are_numbers" m_are_numbers
  r_InvalidGhosts : Xe0 K mg cn "InvalidGhosts" 11
theorem S_require_numbers : FnScope ["value"] ["value"] (defScope s_require_numbers) := ⟨rfl, rfl, rfl, by decide +kernel, rfl, by decide +kernel, by decide +kernel⟩
theorem R_require_numbers (hK : K = cn.K) (G : Gs mg) (T : T_require_numbers P w K mg base cn) (F : FunD K "require_numbers" "require_numbers" (defArgs s_require_numbers) (defBody s_require_numbers) (defScope s_require_numbers) [] [] f fd) : Dx.FnR P w K mg base (L2.CX P w) 8 f (spF cn m_require_numbers) :=
  fn0 (k := 7) hK F S_require_numbers (FunD.bindsN F fun _ _ _ _ _ _ us hl => match us, hl with | [_], _ => rfl) fun cdv A outer s H E c Z =>
    (dss_one (ds_if (dt_not (t_tru Z (e_call Z T.d_are_numbers (by decide) (da_cons (e_var 0) da_nil)))) (dss_one (s_raise0 Z T.r_InvalidGhosts)) dss_nil))
structure T_fault_in (P : Program) (w : World) (K : PySem.W.Frag) (mg : Str → Option Value) (base : Heap) (cn : Cn) : Prop where
  d_test_total : Cal P w K mg base cn 6 "test_total" m_test_total
theorem S_fault_in : FnScope ["numbers", "number"] ["numbers"] (defScope s_fault_in) := ⟨rfl, rfl, rfl, by decide +kernel, rfl, by decide +kernel, by decide +kernel⟩
theorem R_fault_in (hK : K = cn.K) (G : Gs mg) (T : T_fault_in P w K mg base cn) (F : FunD K "fault_in" "fault_in" (defArgs s_fault_in) (defBody s_fault_in) (defScope s_fault_in) [] [] f fd) : Dx.FnR P w K mg base (L2.CX P w) 8 f (spF cn m_fault_in) :=
  fn0 (k := 7) hK F S_fault_in (FunD.bindsN F fun _ _ _ _ _ _ us hl => match us, hl with | [_], _ => rfl) fun cdv A outer s H E c Z =>
    (dss_cons (ds_for Z.pass Z.calm (di_range2 (by rfl) G.f_range (da_cons de_int (da_cons (e_add Z (e_len Z G.f_len (e_var 0)) de_int) da_nil))) (dg_name (g_nm 1 Z.nd)) (dss_one (ds_if (t_ne Z (e_mod (e_call Z T.d_test_total (by decide) (da_cons (e_var 0) (da_cons (e_var 1) da_nil))) (e_var 1)) de_int) (dss_one (ds_ret (e_var 1))) dss_nil)))
    (dss_one (ds_ret de_non)))
structure T_require_ghosts (P : Program) (w : World) (K : PySem.W.Frag) (mg : Str → Option Value) (base : Heap) (cn : Cn) : Prop where
  d_fault_in : Cal P w K mg base cn 8 "fault_in" m_fault_in
  d_require_numbers : Cal P w K mg base cn 8 "require_numbers" m_require_numbers
  r_InvalidOperation : Xe0 K mg cn "InvalidOperation" 12
theorem S_require_ghosts : FnScope ["numbers"] ["numbers"] (defScope s_require_ghosts) := ⟨rfl, rfl, rfl, by decide +kernel, rfl, by decide +kernel, by decide +kernel⟩
theorem R_require_ghosts (hK : K = cn.K) (G : Gs mg) (T : T_require_ghosts P w K mg base cn) (F : FunD K "require_ghosts" "require_ghosts" (defArgs s_require_ghosts) (defBody s_require_ghosts) (defScope s_require_ghosts) [] [] f fd) : Dx.FnR P w K mg base (L2.CX P w) 10 f (spF cn m_require_ghosts) :=
  fn0 (k := 9) hK F S_require_ghosts (FunD.bindsN F fun _ _ _ _ _ _ us hl => match us, hl with | [_], _ => rfl) fun cdv A outer s H E c Z =>
    (dss_cons (ds_expr (e_call Z T.d_require_numbers (by decide) (da_cons (e_var 0) da_nil)))
    (dss_one (ds_if (t_notN (e_call Z T.d_fault_in (by decide) (da_cons (e_var 0) da_nil)) de_non) (dss_one (s_raise0 Z T.r_InvalidOperation)) dss_nil)))
structure T_counts_of (P : Program) (w : World) (K : PySem.W.Frag) (mg : Str → Option Value) (base : Heap) (cn : Cn) : Prop where
  d_counts_in : Cal P w K mg base cn 8 "counts_in" m_counts_in
  d_require_ghosts : Cal P w K mg base cn 10 "require_ghosts" m_require_ghosts
theorem S_counts_of : FnScope ["numbers"] ["numbers"] (defScope s_counts_of) := ⟨rfl, rfl, rfl, by decide +kernel, rfl, by decide +kernel, by decide +kernel⟩
theorem R_counts_of (hK : K = cn.K) (G : Gs mg) (T : T_counts_of P w K mg base cn) (F : FunD K "counts_of" "counts_of" (defArgs s_counts_of) (defBody s_counts_of) (defScope s_counts_of) [] [] f fd) : Dx.FnR P w K mg base (L2.CX P w) 12 f (spF cn m_counts_of) :=
  fn0 (k := 11) hK F S_counts_of (FunD.bindsN F fun _ _ _ _ _ _ us hl => match us, hl with | [_], _ => rfl) fun cdv A outer s H E c Z =>
    (dss_cons (ds_expr (e_call Z T.d_require_ghosts (by decide) (da_cons (e_var 0) da_nil)))
    (dss_one (ds_ret (e_call Z T.d_counts_in (by decide) (da_cons (e_var 0) da_nil)))))
structure T_is_integer (P : Program) (w : World) (K : PySem.W.Frag) (mg : Str → Option Value) (base : Heap) (cn : Cn) : Prop where
  d_is_short : Cal P w K mg base cn 4 "is_short" m_is_short
theorem S_is_integer : FnScope ["value"] ["value"] (defScope s_is_integer) := ⟨rfl, rfl, rfl, by decide +kernel, rfl, by decide +kernel, by decide +kernel⟩
theorem R_is_integer (hK : K = cn.K) (G : Gs mg) (T : T_is_integer P w K mg base cn) (F : FunD K "is_integer" "is_integer" (defArgs s_is_integer) (defBody s_is_integer) (defScope s_is_integer) [] [] f fd) : Dx.FnR P w K mg base (L2.CX P w) 6 f (spF cn m_is_integer) :=
  fn0 (k := 5) hK F S_is_integer (FunD.bindsN F fun _ _ _ _ _ _ us hl => match us, hl with | [_], _ => rfl) fun cdv A outer s H E c Z =>
    (dss_one (ds_ret (e_call Z T.d_is_short (by decide) (da_cons (e_var 0) da_nil))))
structure T_require_count (P : Program) (w : World) (K : PySem.W.Frag) (mg : Str → Option Value) (base : Heap) (cn : Cn) : Prop where
  d_is_integer : Cal P w K mg base cn 6 "is_integer" m_is_integer
  r_InvalidCount : Xe1 P K mg cn "InvalidCount" 14
theorem S_require_count : FnScope ["value", "least", "most"] ["value", "least", "most"] (defScope s_require_count) := ⟨rfl, rfl, rfl, by decide +kernel, rfl, by decide +kernel, by decide +kernel⟩
theorem R_require_count (hK : K = cn.K) (G : Gs mg) (T : T_require_count P w K mg base cn) (F : FunD K "require_count" "require_count" (defArgs s_require_count) (defBody s_require_count) (defScope s_require_count) [] [] f fd) : Dx.FnR P w K mg base (L2.CX P w) 8 f (spF cn m_require_count) :=
  fn0 (k := 7) hK F S_require_count (FunD.bindsN F fun _ _ _ _ _ _ us hl => match us, hl with | [_, _, _], _ => rfl) fun cdv A outer s H E c Z =>
    (dss_one (ds_if (dt_w (dw_or (dt_not (t_tru Z (e_call Z T.d_is_integer (by decide) (da_cons (e_var 0) da_nil)))) (dw_or1 (dt_not (dt_chain op_le ok_cmpI op_le ok_cmpI (e_var 1) (e_var 0) (e_var 2)))))) (dss_one (s_raise (k := 6) Z T.r_InvalidCount (e_var 0))) dss_nil))
structure T_is_prime (P : Program) (w : World) (K : PySem.W.Frag) (mg : Str → Option Value) (base : Heap) (cn : Cn) : Prop where
  d_is_plain : Cal P w K mg base cn 2 "is_plain" m_is_plain
  d_powers_in : Cal P w K mg base cn 2 "powers_in" m_powers_in
theorem S_is_prime : FnScope ["value"] ["value"] (defScope s_is_prime) := ⟨rfl, rfl, rfl, by decide +kernel, rfl, by decide +kernel, by decide +kernel⟩
theorem R_is_prime (hK : K = cn.K) (G : Gs mg) (T : T_is_prime P w K mg base cn) (F : FunD K "is_prime" "is_prime" (defArgs s_is_prime) (defBody s_is_prime) (defScope s_is_prime) [] [] f fd) : Dx.FnR P w K mg base (L2.CX P w) 4 f (spF cn m_is_prime) :=
  fn0 (k := 3) hK F S_is_prime (FunD.bindsN F fun _ _ _ _ _ _ us hl => match us, hl with | [_], _ => rfl) fun cdv A outer s H E c Z =>
    (dss_cons (ds_if (dt_w (dw_or (dt_not (t_tru Z (e_call Z T.d_is_plain (by decide) (da_cons (e_var 0) da_nil)))) (dw_or1 (dt_not (dt_chain op_le ok_cmpI op_le ok_cmpI de_int (e_var 0) (de_gint (by rfl) G.c_MAX_FACTORED)))))) (dss_one (ds_ret de_bl)) dss_nil)
    (dss_one (ds_ret (e_eqX Z (de_listVals Z.calm Z.hK (by rfl) G.f_list (e_call Z T.d_powers_in (by decide) (da_cons (e_var 0) da_nil))) (de_frz (do_lst (da_cons de_int da_nil)))))))
structure T_require_prime (P : Program) (w : World) (K : PySem.W.Frag) (mg : Str → Option Value) (base : Heap) (cn : Cn) : Prop where
  d_is_prime : Cal P w K mg base cn 4 "is_prime" m_is_prime
  r_InvalidPrime : Xe0 K mg cn "InvalidPrime" 10
theorem S_require_prime : FnScope ["value"] ["value"] (defScope s_require_prime) := ⟨rfl, rfl, rfl, by decide +kernel, rfl, by decide +kernel, by decide +kernel⟩
theorem R_require_prime (hK : K = cn.K) (G : Gs mg) (T : T_require_prime P w K mg base cn) (F : FunD K "require_prime" "require_prime" (defArgs s_require_prime) (defBody s_require_prime) (defScope s_require_prime) [] [] f fd) : Dx.FnR P w K mg base (L2.CX P w) 6 f (spF cn m_require_prime) :=
  fn0 (k := 5) hK F S_require_prime (FunD.bindsN F fun _ _ _ _ _ _ us hl => match us, hl with | [_], _ => rfl) fun cdv A outer s H E c Z =>
    (dss_one (ds_if (dt_w (dw_or (dt_not (t_tru Z (e_call Z T.d_is_prime (by decide) (da_cons (e_var 0) da_nil)))) (dw_or1 (t_gt (e_var 0) (de_gint (by rfl) G.c_MOST_PRIME))))) (dss_one (s_raise0 Z T.r_InvalidPrime)) dss_nil))
structure T_line_of (P : Program) (w : World) (K : PySem.W.Frag) (mg : Str → Option Value) (base : Heap) (cn : Cn) : Prop where
  u : True
theorem S_line_of : FnScope ["tops", "bottom", "modulus", "top", "share"] ["tops", "bottom", "modulus"] (defScope s_line_of) := ⟨rfl, rfl, rfl, by decide +kernel, rfl, by decide +kernel, by decide +kernel⟩
theorem R_line_of (hK : K = cn.K) (G : Gs mg) (T : T_line_of P w K mg base cn) (F : FunD K "line_of" "line_of" (defArgs s_line_of) (defBody s_line_of) (defScope s_line_of) [] [] f fd) : Dx.FnR P w K mg base (L2.CX P w) 2 f (spF cn m_line_of) :=
  fn0 (k := 1) hK F S_line_of (FunD.bindsN F fun _ _ _ _ _ _ us hl => match us, hl with | [_, _, _], _ => rfl) fun cdv A outer s H E c Z =>
    (dss_cons (ds_if (t_gt (e_var 2) de_int) (dss_one (ds_ret (de_tup (da_cons (de_frz (do_lc (own := [("top", 3)]) Z.calm Z.nd (r_list Z (e_var 0)) (blkOk_by (N := ["tops", "bottom", "modulus", "top", "share"]) (sc := defScope s_line_of) (own := [("top", 3)]) (by decide +kernel)) (by decide) (fun s H C cl fp => (dg_name (g_nm 3 Z.nd))) (fun s H C cl fp c1 h1 => dts_nil) (fun s H C cl fp c1 h1 => (e_mod (e_var 3) (e_var 2))))) (da_cons de_int da_nil))))) dss_nil)
    (dss_cons (ds_set (g_name 4 Z) (e_var 1))
    (dss_cons (ds_for Z.pass Z.calm (r_list Z (e_var 0)) (dg_name (g_nm 3 Z.nd)) (dss_one (ds_set (g_name 4 Z) (e_gcd G.b_gcd (e_var 4) (e_var 3)))))
    (dss_cons (ds_set (g_name 4 Z) (de_ifExp (t_lt (e_var 1) de_int) (e_neg (e_var 4)) (e_var 4)))
    (dss_one (ds_ret (de_ifExp (t_ne Z (e_var 4) de_int) (de_tup (da_cons (de_frz (do_lc (own := [("top", 3)]) Z.calm Z.nd (r_list Z (e_var 0)) (blkOk_by (N := ["tops", "bottom", "modulus", "top", "share"]) (sc := defScope s_line_of) (own := [("top", 3)]) (by decide +kernel)) (by decide) (fun s H C cl fp => (dg_name (g_nm 3 Z.nd))) (fun s H C cl fp c1 h1 => dts_nil) (fun s H C cl fp c1 h1 => (e_div (e_var 3) (e_var 4))))) (da_cons (e_div (e_var 1) (e_var 4)) da_nil))) (de_tup (da_cons (de_frz (do_list Z.hK G.f_list (e_var 0))) (da_cons (e_var 1) da_nil))))))))))
structure T_line_of_pairs (P : Program) (w : World) (K : PySem.W.Frag) (mg : Str → Option Value) (base : Heap) (cn : Cn) : Prop where
  d_line_of : Cal P w K mg base cn 2 "line_of" m_line_of
theorem S_line_of_pairs : FnScope ["pairs", "shared", "top", "bottom"] ["pairs"] (defScope s_line_of_pairs) := ⟨rfl, rfl, rfl, by decide +kernel, rfl, by decide +kernel, by decide +kernel⟩
theorem R_line_of_pairs (hK : K = cn.K) (G : Gs mg) (T : T_line_of_pairs P w K mg base cn) (F : FunD K "line_of_pairs" "line_of_pairs" (defArgs s_line_of_pairs) (defBody s_line_of_pairs) (defScope s_line_of_pairs) [] [] f fd) : Dx.FnR P w K mg base (L2.CX P w) 4 f (spF cn m_line_of_pairs) :=
  fn0 (k := 3) hK F S_line_of_pairs (FunD.bindsN F fun _ _ _ _ _ _ us hl => match us, hl with | [_], _ => rfl) fun cdv A outer s H E c Z =>
    (dss_cons (ds_set (g_name 1 Z) de_int)
    (dss_cons (ds_for Z.pass Z.calm (r_list Z (e_var 0)) (dg_tup Z.calm Z.hK (dgs_cons (dg_name (g_nm 2 Z.nd)) (dgs_cons (dg_name (g_nm 3 Z.nd)) dgs_nil))) (dss_one (ds_set (g_name 1 Z) (e_div (e_mul Z (e_var 1) (e_var 3)) (e_gcd G.b_gcd (e_var 1) (e_var 3))))))
    (dss_one (ds_ret (e_call Z T.d_line_of (by decide) (da_cons (de_frz (do_lc (own := [("top", 2), ("bottom", 3)]) Z.calm Z.nd (r_list Z (e_var 0)) (blkOk_by (N := ["pairs", "shared", "top", "bottom"]) (sc := defScope s_line_of_pairs) (own := [("top", 2), ("bottom", 3)]) (by decide +kernel)) (by decide) (fun s H C cl fp => (dg_tup Z.calm Z.hK (dgs_cons (dg_name (g_nm 2 Z.nd)) (dgs_cons (dg_name (g_nm 3 Z.nd)) dgs_nil)))) (fun s H C cl fp c1 h1 => dts_nil) (fun s H C cl fp c1 h1 => (e_mul (Ctx.blk Z h1 s H _ _ fp) (e_var 2) (e_div (e_var 1) (e_var 3)))))) (da_cons (e_var 1) (da_cons de_int da_nil))))))))
structure T_line_exp (P : Program) (w : World) (K : PySem.W.Frag) (mg : Str → Option Value) (base : Heap) (cn : Cn) : Prop where
  d_line_of_pairs : Cal P w K mg base cn 4 "line_of_pairs" m_line_of_pairs
theorem S_line_exp : FnScope ["line", "tops", "bottom", "size", "found", "falls", "powers", "at", "parts", "step", "pairs"] ["line"] (defScope s_line_exp) := ⟨rfl, rfl, rfl, by decide +kernel, rfl, by decide +kernel, by decide +kernel⟩
theorem R_line_exp (hK : K = cn.K) (G : Gs mg) (T : T_line_exp P w K mg base cn) (F : FunD K "line_exp" "line_exp" (defArgs s_line_exp) (defBody s_line_exp) (defScope s_line_exp) [] [] f fd) : Dx.FnR P w K mg base (L2.CX P w) 6 f (spF cn m_line_exp) :=
  fn0 (k := 5) hK F S_line_exp (FunD.bindsN F fun _ _ _ _ _ _ us hl => match us, hl with | [_], _ => rfl) fun cdv A outer s H E c Z =>
    (dss_cons (ds_asg (e_var 0) (dg_tup Z.calm Z.hK (dgs_cons (dg_name (g_nm 1 Z.nd)) (dgs_cons (dg_name (g_nm 2 Z.nd)) dgs_nil))))
    (dss_cons (ds_asgM (is := [3, 4, 5, 6]) Z (dm_v (e_len Z G.f_len (e_var 1)) (dm_o Z (do_lst (da_cons de_int da_nil)) (fun ct ht Zt => (dm_o Zt (do_lst (da_cons de_int da_nil)) (fun ct ht Zt => (dm_o Zt (do_lst (da_cons de_int da_nil)) (fun ct ht Zt => dm_nil))))))) (dgn_cons (g_name 3 Z) (dgn_cons (g_name 4 Z) (dgn_cons (g_name 5 Z) (dgn_cons (g_name 6 Z) dgn_nil)))))
    (dss_cons (ds_for Z.pass Z.calm (di_range2 (by rfl) G.f_range (da_cons de_int (da_cons (e_var 3) da_nil))) (dg_name (g_nm 7 Z.nd)) (dss_cons (ds_expr (de_app (i := 5) (pv 5) (e_mul Z (de_ownIx (i := 5) Z.hK (pv 5) (e_neg de_int) (by intro _ _; rfl)) (e_var 7))))
    (dss_one (ds_expr (de_app (i := 6) (pv 6) (e_mul Z (de_ownIx (i := 6) Z.hK (pv 6) (e_neg de_int) (by intro _ _; rfl)) (e_var 2)))))))
    (dss_cons (ds_for Z.pass Z.calm (di_range2 (by rfl) G.f_range (da_cons de_int (da_cons (e_var 3) da_nil))) (dg_name (g_nm 7 Z.nd)) (dss_cons (ds_setLc (i := 8) (own := [("step", 9)]) Z.calm Z.nd rfl rfl (sw_true rfl rfl rfl (by decide +kernel)) (di_range2 (by rfl) G.f_range (da_cons de_int (da_cons (e_add Z (e_var 7) de_int) da_nil))) (blkOk_by (N := ["line", "tops", "bottom", "size", "found", "falls", "powers", "at", "parts", "step", "pairs"]) (sc := defScope s_line_exp) (own := [("step", 9)]) (by decide +kernel)) (by decide) (fun s H C cl fp => (dg_name (g_nm 9 Z.nd))) (fun s H C cl fp c1 h1 => dts_nil) (fun s H C cl fp c1 h1 => (e_mul (Ctx.blk Z h1 s H _ _ fp) (e_mul (Ctx.blk Z h1 s H _ _ fp) (e_mul (Ctx.blk Z h1 s H _ _ fp) (e_mul (Ctx.blk Z h1 s H _ _ fp) (e_var 9) (e_ix (Ctx.blk Z h1 s H _ _ fp) (e_var 1) (e_var 9))) (de_ownIx (i := 6) (Ctx.blk Z h1 s H _ _ fp).hK (pv 6) (e_sub (e_var 9) de_int) (by intro _ _; rfl))) (e_div (de_ownIx (i := 5) (Ctx.blk Z h1 s H _ _ fp).hK (pv 5) (e_sub (e_var 7) de_int) (by intro _ _; rfl)) (de_ownIx (i := 5) (Ctx.blk Z h1 s H _ _ fp).hK (pv 5) (e_sub (e_var 7) (e_var 9)) (by intro _ _; rfl)))) (de_ownIx (i := 4) (Ctx.blk Z h1 s H _ _ fp).hK (pv 4) (e_sub (e_var 7) (e_var 9)) (by intro _ _; rfl)))))
    (dss_one (ds_expr (de_app (i := 4) (pv 4) (e_sum Z G.f_sum (e_var 8)))))))
    (dss_cons (ds_setLc (i := 10) (own := [("at", 7)]) Z.calm Z.nd rfl rfl (sw_true rfl rfl rfl (by decide +kernel)) (di_range1 (by rfl) G.f_range (da_cons (e_var 3) da_nil)) (blkOk_by (N := ["line", "tops", "bottom", "size", "found", "falls", "powers", "at", "parts", "step", "pairs"]) (sc := defScope s_line_exp) (own := [("at", 7)]) (by decide +kernel)) (by decide) (fun s H C cl fp => (dg_name (g_nm 7 Z.nd))) (fun s H C cl fp c1 h1 => dts_nil) (fun s H C cl fp c1 h1 => (de_tup (da_cons (de_ownIx (i := 4) (Ctx.blk Z h1 s H _ _ fp).hK (pv 4) (e_var 7) (by intro _ _; rfl)) (da_cons (e_mul (Ctx.blk Z h1 s H _ _ fp) (de_ownIx (i := 5) (Ctx.blk Z h1 s H _ _ fp).hK (pv 5) (e_var 7) (by intro _ _; rfl)) (de_ownIx (i := 6) (Ctx.blk Z h1 s H _ _ fp).hK (pv 6) (e_var 7) (by intro _ _; rfl))) da_nil)))))
    (dss_one (ds_ret (e_call Z T.d_line_of_pairs (by decide) (da_cons (e_var 10) da_nil)))))))))
structure T_Made_init (P : Program) (w : World) (K : PySem.W.Frag) (mg : Str → Option Value) (base : Heap) (cn : Cn) : Prop where
  a_own_line : AttrOk cn "own_line" ta_own_line
theorem S_Made_init : FnScope ["self", "line"] ["self", "line"] (defScope s_Made_init) := ⟨rfl, rfl, rfl, by decide +kernel, rfl, by decide +kernel, by decide +kernel⟩
theorem R_Made_init (hK : K = cn.K) (G : Gs mg) (T : T_Made_init P w K mg base cn) (F : FunD K "__init__" "Made.__init__" (defArgs s_Made_init) (defBody s_Made_init) (defScope s_Made_init) [] [] f fd) : Dx.FnR P w K mg base (L2.CX P w) 2 f (spI cn 2 i_Made) :=
  in0 (k := 1) hK F S_Made_init (FunD.bindsN F fun _ _ _ _ _ _ us hl => match us, hl with | [_, _], _ => rfl) fun cdv A outer s H E c Z =>
    (dss_one (s_self (i := 0) Z T.a_own_line (pv 0) (e_var 1)))
structure T_Terms_init (P : Program) (w : World) (K : PySem.W.Frag) (mg : Str → Option Value) (base : Heap) (cn : Cn) : Prop where
  a_own_bottom : AttrOk cn "own_bottom" ta_own_bottom
  a_own_top : AttrOk cn "own_top" ta_own_top
theorem S_Terms_init : FnScope ["self", "top", "bottom"] ["self", "top", "bottom"] (defScope s_Terms_init) := ⟨rfl, rfl, rfl, by decide +kernel, rfl, by decide +kernel, by decide +kernel⟩
theorem R_Terms_init (hK : K = cn.K) (G : Gs mg) (T : T_Terms_init P w K mg base cn) (F : FunD K "__init__" "Terms.__init__" (defArgs s_Terms_init) (defBody s_Terms_init) (defScope s_Terms_init) [] [] f fd) : Dx.FnR P w K mg base (L2.CX P w) 2 f (spI cn 0 i_Terms) :=
  in0 (k := 1) hK F S_Terms_init (FunD.bindsN F fun _ _ _ _ _ _ us hl => match us, hl with | [_, _, _], _ => rfl) fun cdv A outer s H E c Z =>
    (dss_cons (s_self (i := 0) Z T.a_own_top (pv 0) (e_var 1))
    (dss_one (s_self (i := 0) Z T.a_own_bottom (pv 0) (e_var 2))))
structure T_terms_of (P : Program) (w : World) (K : PySem.W.Frag) (mg : Str → Option Value) (base : Heap) (cn : Cn) : Prop where
  k_Terms : Mkr P w K mg base cn 2 "Terms" 0 i_Terms
theorem S_terms_of : FnScope ["top", "bottom", "shared"] ["top", "bottom"] (defScope s_terms_of) := ⟨rfl, rfl, rfl, by decide +kernel, rfl, by decide +kernel, by decide +kernel⟩
theorem R_terms_of (hK : K = cn.K) (G : Gs mg) (T : T_terms_of P w K mg base cn) (F : FunD K "terms_of" "terms_of" (defArgs s_terms_of) (defBody s_terms_of) (defScope s_terms_of) [] [] f fd) : Dx.FnR P w K mg base (L2.CX P w) 4 f (spF cn m_terms_of) :=
  fn0 (k := 3) hK F S_terms_of (FunD.bindsN F fun _ _ _ _ _ _ us hl => match us, hl with | [_, _], _ => rfl) fun cdv A outer s H E c Z =>
    (dss_cons (ds_set (g_name 2 Z) (e_gcd G.b_gcd (e_var 0) (e_var 1)))
    (dss_cons (ds_if (t_lt (e_var 1) de_int) (dss_one (ds_set (g_name 2 Z) (e_neg (e_var 2)))) dss_nil)
    (dss_one (ds_ret (e_make Z T.k_Terms (by decide) (da_cons (e_div (e_var 0) (e_var 2)) (da_cons (e_div (e_var 1) (e_var 2)) da_nil)))))))
structure T_told_terms (P : Program) (w : World) (K : PySem.W.Frag) (mg : Str → Option Value) (base : Heap) (cn : Cn) : Prop where
  d_is_short : Cal P w K mg base cn 4 "is_short" m_is_short
  d_terms_of : Cal P w K mg base cn 4 "terms_of" m_terms_of
  j_Terms : ∃ C, mg "Terms" = some (.ref C) ∧ IsiOk cn C tj_Terms
  r_InvalidCount : Xe1 P K mg cn "InvalidCount" 14
theorem S_told_terms : FnScope ["top", "bottom"] ["top", "bottom"] (defScope s_told_terms) := ⟨rfl, rfl, rfl, by decide +kernel, rfl, by decide +kernel, by decide +kernel⟩
theorem R_told_terms (hK : K = cn.K) (G : Gs mg) (T : T_told_terms P w K mg base cn) (F : FunD K "told_terms" "told_terms" (defArgs s_told_terms) (defBody s_told_terms) (defScope s_told_terms) [] [] f fd) : Dx.FnR P w K mg base (L2.CX P w) 6 f (spF cn m_told_terms) :=
  fn0 (k := 5) hK F S_told_terms (FunD.bindsN F fun _ _ _ _ _ _ us hl => match us, hl with | [_, _], _ => rfl) fun cdv A outer s H E c Z =>
    (dss_cons (ds_if (t_tru Z (e_isi Z T.j_Terms G.f_isinstance (e_var 0))) (dss_one (ds_ret (e_var 0))) dss_nil)
    (dss_cons (ds_if (dt_not (t_tru Z (e_call Z T.d_is_short (by decide) (da_cons (e_var 0) da_nil)))) (dss_one (s_raise (k := 4) Z T.r_InvalidCount (e_var 0))) dss_nil)
    (dss_cons (ds_if (dt_w (dw_or (dt_not (t_tru Z (e_call Z T.d_is_short (by decide) (da_cons (e_var 1) da_nil)))) (dw_or1 (t_eqX Z (e_var 1) de_int)))) (dss_one (s_raise (k := 4) Z T.r_InvalidCount (e_var 1))) dss_nil)
    (dss_one (ds_ret (e_call Z T.d_terms_of (by decide) (da_cons (e_var 0) (da_cons (e_var 1) da_nil))))))))
structure T_Ratio_init (P : Program) (w : World) (K : PySem.W.Frag) (mg : Str → Option Value) (base : Heap) (cn : Cn) : Prop where
  d_told_terms : Cal P w K mg base cn 6 "told_terms" m_told_terms
  a_own_bottom : AttrOk cn "own_bottom" ta_own_bottom
  a_own_top : AttrOk cn "own_top" ta_own_top
theorem S_Ratio_init : FnScope ["self", "top", "bottom", "terms"] ["self", "top", "bottom"] (defScope s_Ratio_init) := ⟨rfl, rfl, rfl, by decide +kernel, rfl, by decide +kernel, by decide +kernel⟩
theorem Q_Ratio_init (hK : K = cn.K) (G : Gs mg) (T : T_Ratio_init P w K mg base cn) (F : FunD K "__init__" "Ratio.__init__" (defArgs s_Ratio_init) (defBody s_Ratio_init) (defScope s_Ratio_init) [(.int (1))] [] f fd) : OkI P w K mg base cn 8 f fd ["self", "top", "bottom"] 1 i_Ratio :=
  io1 (k := 7) hK F S_Ratio_init fun cdv A outer s H E c Z =>
    (dss_cons (ds_set (g_name 3 Z) (e_call Z T.d_told_terms (by decide) (da_cons (e_var 1) (da_cons (e_var 2) da_nil))))
    (dss_cons (s_self (i := 0) Z T.a_own_top (pv 0) (e_attr Z T.a_own_top (e_var 3)))
    (dss_one (s_self (i := 0) Z T.a_own_bottom (pv 0) (e_attr Z T.a_own_bottom (e_var 3))))))
theorem R_Ratio_init (hK : K = cn.K) (G : Gs mg) (T : T_Ratio_init P w K mg base cn) (F : FunD K "__init__" "Ratio.__init__" (defArgs s_Ratio_init) (defBody s_Ratio_init) (defScope s_Ratio_init) [(.int (1))] [] f fd) : Dx.FnR P w K mg base (L2.CX P w) 8 f (spI cn 1 i_Ratio) := by
  have hb := FunD.binds1 (ps := ["self", "top", "bottom"]) F 3 1 (by simp) (by rfl) fun _ _ _ _ _ _ _ us its h1 h2 => match us, its, h1, h2 with | [_, _, _], [_], _, _ => ⟨_, rfl, rfl⟩
  obtain ⟨ds, hb⟩ := hb
  exact (Q_Ratio_init hK G T F).all rfl rfl hb
theorem D_Ratio_init (hK : K = cn.K) (G : Gs mg) (T : T_Ratio_init P w K mg base cn) (F : FunD K "__init__" "Ratio.__init__" (defArgs s_Ratio_init) (defBody s_Ratio_init) (defScope s_Ratio_init) [(.int (1))] [] f fd) : Dx.FnR P w K mg base (L2.CX P w) 8 f (spI cn 1 (dfl i_Ratio (.int (1)))) := by
  have hb := FunD.binds1 (ps := ["self", "top", "bottom"]) F 2 0 (by simp) (by rfl) fun _ _ _ _ _ _ _ us its h1 h2 => match us, its, h1, h2 with | [_, _], [_], _, _ => ⟨_, rfl, rfl⟩
  exact (Q_Ratio_init hK G T F).dfl rfl rfl rfl hb
structure T_ratio_of (P : Program) (w : World) (K : PySem.W.Frag) (mg : Str → Option Value) (base : Heap) (cn : Cn) : Prop where
  d_terms_of : Cal P w K mg base cn 4 "terms_of" m_terms_of
  K_Ratio : Mkr P w K mg base cn 8 "Ratio" 1 (dfl i_Ratio (.int (1)))
theorem S_ratio_of : FnScope ["top", "bottom"] ["top", "bottom"] (defScope s_ratio_of) := ⟨rfl, rfl, rfl, by decide +kernel, rfl, by decide +kernel, by decide +kernel⟩
theorem Q_ratio_of (hK : K = cn.K) (G : Gs mg) (T : T_ratio_of P w K mg base cn) (F : FunD K "ratio_of" "ratio_of" (defArgs s_ratio_of) (defBody s_ratio_of) (defScope s_ratio_of) [(.int (1))] [] f fd) : OkF P w K mg base cn 10 f fd ["top", "bottom"] m_ratio_of :=
  fo1 (k := 9) hK F S_ratio_of fun cdv A outer s H E c Z =>
    (dss_one (ds_ret (e_make Z T.K_Ratio (by decide) (da_cons (e_call Z T.d_terms_of (by decide) (da_cons (e_var 0) (da_cons (e_var 1) da_nil))) da_nil))))
theorem R_ratio_of (hK : K = cn.K) (G : Gs mg) (T : T_ratio_of P w K mg base cn) (F : FunD K "ratio_of" "ratio_of" (defArgs s_ratio_of) (defBody s_ratio_of) (defScope s_ratio_of) [(.int (1))] [] f fd) : Dx.FnR P w K mg base (L2.CX P w) 10 f (spF cn m_ratio_of) := by
  have hb := FunD.binds1 (ps := ["top", "bottom"]) F 2 1 (by simp) (by rfl) fun _ _ _ _ _ _ _ us its h1 h2 => match us, its, h1, h2 with | [_, _], [_], _, _ => ⟨_, rfl, rfl⟩
  obtain ⟨ds, hb⟩ := hb
  exact (Q_ratio_of hK G T F).all rfl rfl hb
theorem D_ratio_of (hK : K = cn.K) (G : Gs mg) (T : T_ratio_of P w K mg base cn) (F : FunD K "ratio_of" "ratio_of" (defArgs s_ratio_of) (defBody s_ratio_of) (defScope s_ratio_of) [(.int (1))] [] f fd) : Dx.FnR P w K mg base (L2.CX P w) 10 f (spF cn (dfl m_ratio_of (.int (1)))) := by
  have hb := FunD.binds1 (ps := ["top", "bottom"]) F 1 0 (by simp) (by rfl) fun _ _ _ _ _ _ _ us its h1 h2 => match us, its, h1, h2 with | [_], [_], _, _ => ⟨_, rfl, rfl⟩
  exact (Q_ratio_of hK G T F).dfl rfl rfl rfl hb
structure T_require_modulus (P : Program) (w : World) (K : PySem.W.Frag) (mg : Str → Option Value) (base : Heap) (cn : Cn) : Prop where
  d_is_integer : Cal P w K mg base cn 6 "is_integer" m_is_integer
  r_InvalidModulus : Xe0 K mg cn "InvalidModulus" 8
theorem S_require_modulus : FnScope ["value"] ["value"] (defScope s_require_modulus) := ⟨rfl, rfl, rfl, by decide +kernel, rfl, by decide +kernel, by decide +kernel⟩
theorem R_require_modulus (hK : K = cn.K) (G : Gs mg) (T : T_require_modulus P w K mg base cn) (F : FunD K "require_modulus" "require_modulus" (defArgs s_require_modulus) (defBody s_require_modulus) (defScope s_require_modulus) [] [] f fd) : Dx.FnR P w K mg base (L2.CX P w) 8 f (spF cn m_require_modulus) :=
  fn0 (k := 7) hK F S_require_modulus (FunD.bindsN F fun _ _ _ _ _ _ us hl => match us, hl with | [_], _ => rfl) fun cdv A outer s H E c Z =>
    (dss_one (ds_if (dt_w (dw_or (dt_not (t_tru Z (e_call Z T.d_is_integer (by decide) (da_cons (e_var 0) da_nil)))) (dw_or (t_lt (e_var 0) de_int) (dw_or (t_eqX Z (e_var 0) de_int) (dw_or1 (t_gt (e_var 0) (de_gint (by rfl) G.c_MOST_MODULUS_rows))))))) (dss_one (s_raise0 Z T.r_InvalidModulus)) dss_nil))
structure T_is_number (P : Program) (w : World) (K : PySem.W.Frag) (mg : Str → Option Value) (base : Heap) (cn : Cn) : Prop where
  d_is_integer : Cal P w K mg base cn 6 "is_integer" m_is_integer
  j_Ratio : ∃ C, mg "Ratio" = some (.ref C) ∧ IsiOk cn C tj_Ratio
theorem S_is_number : FnScope ["value"] ["value"] (defScope s_is_number) := ⟨rfl, rfl, rfl, by decide +kernel, rfl, by decide +kernel, by decide +kernel⟩
theorem R_is_number (hK : K = cn.K) (G : Gs mg) (T : T_is_number P w K mg base cn) (F : FunD K "is_number" "is_number" (defArgs s_is_number) (defBody s_is_number) (defScope s_is_number) [] [] f fd) : Dx.FnR P w K mg base (L2.CX P w) 8 f (spF cn m_is_number) :=
  fn0 (k := 7) hK F S_is_number (FunD.bindsN F fun _ _ _ _ _ _ us hl => match us, hl with | [_], _ => rfl) fun cdv A outer s H E c Z =>
    (dss_one (ds_ret (de_or (e_isi Z T.j_Ratio G.f_isinstance (e_var 0)) (de_one (e_call Z T.d_is_integer (by decide) (da_cons (e_var 0) da_nil))))))
structure T_number_pair (P : Program) (w : World) (K : PySem.W.Frag) (mg : Str → Option Value) (base : Heap) (cn : Cn) : Prop where
  j_Ratio : ∃ C, mg "Ratio" = some (.ref C) ∧ IsiOk cn C tj_Ratio
  a_own_bottom : AttrOk cn "own_bottom" ta_own_bottom
  a_own_top : AttrOk cn "own_top" ta_own_top
theorem S_number_pair : FnScope ["value"] ["value"] (defScope s_number_pair) := ⟨rfl, rfl, rfl, by decide +kernel, rfl, by decide +kernel, by decide +kernel⟩
theorem R_number_pair (hK : K = cn.K) (G : Gs mg) (T : T_number_pair P w K mg base cn) (F : FunD K "number_pair" "number_pair" (defArgs s_number_pair) (defBody s_number_pair) (defScope s_number_pair) [] [] f fd) : Dx.FnR P w K mg base (L2.CX P w) 2 f (spF cn m_number_pair) :=
  fn0 (k := 1) hK F S_number_pair (FunD.bindsN F fun _ _ _ _ _ _ us hl => match us, hl with | [_], _ => rfl) fun cdv A outer s H E c Z =>
    (dss_one (ds_ret (de_ifExp (t_tru Z (e_isi Z T.j_Ratio G.f_isinstance (e_var 0))) (de_tup (da_cons (e_attr Z T.a_own_top (e_var 0)) (da_cons (e_attr Z T.a_own_bottom (e_var 0)) da_nil))) (de_tup (da_cons (e_var 0) (da_cons de_int da_nil))))))
structure T_is_number_of (P : Program) (w : World) (K : PySem.W.Frag) (mg : Str → Option Value) (base : Heap) (cn : Cn) : Prop where
  d_is_integer : Cal P w K mg base cn 6 "is_integer" m_is_integer
  j_Ratio : ∃ C, mg "Ratio" = some (.ref C) ∧ IsiOk cn C tj_Ratio
theorem S_is_number_of : FnScope ["modulus", "value"] ["modulus", "value"] (defScope s_is_number_of) := ⟨rfl, rfl, rfl, by decide +kernel, rfl, by decide +kernel, by decide +kernel⟩
theorem R_is_number_of (hK : K = cn.K) (G : Gs mg) (T : T_is_number_of P w K mg base cn) (F : FunD K "is_number_of" "is_number_of" (defArgs s_is_number_of) (defBody s_is_number_of) (defScope s_is_number_of) [] [] f fd) : Dx.FnR P w K mg base (L2.CX P w) 8 f (spF cn m_is_number_of) :=
  fn0 (k := 7) hK F S_is_number_of (FunD.bindsN F fun _ _ _ _ _ _ us hl => match us, hl with | [_, _], _ => rfl) fun cdv A outer s H E c Z =>
    (dss_one (ds_ret (de_or (e_call Z T.d_is_integer (by decide) (da_cons (e_var 1) da_nil)) (de_one (de_and (e_eqX Z (e_var 0) de_int) (de_one (e_isi Z T.j_Ratio G.f_isinstance (e_var 1))))))))
structure T_line_told (P : Program) (w : World) (K : PySem.W.Frag) (mg : Str → Option Value) (base : Heap) (cn : Cn) : Prop where
  d_is_number : Cal P w K mg base cn 8 "is_number" m_is_number
  d_is_number_of : Cal P w K mg base cn 8 "is_number_of" m_is_number_of
  d_line_of : Cal P w K mg base cn 2 "line_of" m_line_of
  d_line_of_pairs : Cal P w K mg base cn 4 "line_of_pairs" m_line_of_pairs
  d_number_pair : Cal P w K mg base cn 2 "number_pair" m_number_pair
  d_require_modulus : Cal P w K mg base cn 8 "require_modulus" m_require_modulus
  ik : IskOk cn tkT
  j_Made : ∃ C, mg "Made" = some (.ref C) ∧ IsiOk cn C tj_Made
  r_InvalidRow : Xe0 K mg cn "InvalidRow" 9
  a_own_line : AttrOk cn "own_line" ta_own_line
theorem S_line_told : FnScope ["entries", "modulus", "entry"] ["entries", "modulus"] (defScope s_line_told) := ⟨rfl, rfl, rfl, by decide +kernel, rfl, by decide +kernel, by decide +kernel⟩
theorem R_line_told (hK : K = cn.K) (G : Gs mg) (T : T_line_told P w K mg base cn) (F : FunD K "line_told" "line_told" (defArgs s_line_told) (defBody s_line_told) (defScope s_line_told) [] [] f fd) : Dx.FnR P w K mg base (L2.CX P w) 10 f (spF cn m_line_told) :=
  fn0 (k := 9) hK F S_line_told (FunD.bindsN F fun _ _ _ _ _ _ us hl => match us, hl with | [_, _], _ => rfl) fun cdv A outer s H E c Z =>
    (dss_cons (ds_if (t_tru Z (e_isi Z T.j_Made G.f_isinstance (e_var 0))) (dss_one (ds_ret (e_attr Z T.a_own_line (e_var 0)))) dss_nil)
    (dss_cons (ds_if (dt_w (dw_or (dt_not (t_tru Z (e_isiK 3 (by decide) Z T.ik G.f_isinstance (e_var 0) G.f_tuple))) (dw_or1 (dt_not (dt_chain op_le ok_cmpI op_le ok_cmpI de_int (e_len Z G.f_len (e_var 0)) (e_add Z (de_gint (by rfl) G.c_MAX_ROW) de_int)))))) (dss_one (s_raise0 Z T.r_InvalidRow)) dss_nil)
    (dss_cons (ds_if (dt_not (t_tru Z (e_all Z G.f_all (de_frz (do_lc (own := [("entry", 2)]) Z.calm Z.nd (r_list Z (e_var 0)) (blkOk_by (N := ["entries", "modulus", "entry"]) (sc := defScope s_line_told) (own := [("entry", 2)]) (by decide +kernel)) (by decide) (fun s H C cl fp => (dg_name (g_nm 2 Z.nd))) (fun s H C cl fp c1 h1 => dts_nil) (fun s H C cl fp c1 h1 => (e_call (Ctx.blk Z h1 s H _ _ fp) T.d_is_number (by decide) (da_cons (e_var 2) da_nil)))))))) (dss_one (s_raise0 Z T.r_InvalidRow)) dss_nil)
    (dss_cons (ds_expr (e_call Z T.d_require_modulus (by decide) (da_cons (e_var 1) da_nil)))
    (dss_cons (ds_if (dt_not (t_tru Z (e_all Z G.f_all (de_frz (do_lc (own := [("entry", 2)]) Z.calm Z.nd (r_list Z (e_var 0)) (blkOk_by (N := ["entries", "modulus", "entry"]) (sc := defScope s_line_told) (own := [("entry", 2)]) (by decide +kernel)) (by decide) (fun s H C cl fp => (dg_name (g_nm 2 Z.nd))) (fun s H C cl fp c1 h1 => dts_nil) (fun s H C cl fp c1 h1 => (e_call (Ctx.blk Z h1 s H _ _ fp) T.d_is_number_of (by decide) (da_cons (e_var 1) (da_cons (e_var 2) da_nil))))))))) (dss_one (s_raise0 Z T.r_InvalidRow)) dss_nil)
    (dss_cons (ds_if (t_gt (e_var 1) de_int) (dss_one (ds_ret (e_call Z T.d_line_of (by decide) (da_cons (de_frz (do_list Z.hK G.f_list (e_var 0))) (da_cons de_int (da_cons (e_var 1) da_nil)))))) dss_nil)
    (dss_one (ds_ret (e_call Z T.d_line_of_pairs (by decide) (da_cons (de_frz (do_lc (own := [("entry", 2)]) Z.calm Z.nd (r_list Z (e_var 0)) (blkOk_by (N := ["entries", "modulus", "entry"]) (sc := defScope s_line_told) (own := [("entry", 2)]) (by decide +kernel)) (by decide) (fun s H C cl fp => (dg_name (g_nm 2 Z.nd))) (fun s H C cl fp c1 h1 => dts_nil) (fun s H C cl fp c1 h1 => (e_call (Ctx.blk Z h1 s H _ _ fp) T.d_number_pair (by decide) (da_cons (e_var 2) da_nil))))) da_nil))))))))))
structure T_Row_init (P : Program) (w : World) (K : PySem.W.Frag) (mg : Str → Option Value) (base : Heap) (cn : Cn) : Prop where
  d_line_told : Cal P w K mg base cn 10 "line_told" m_line_told
  d_ratio_of : Cal P w K mg base cn 10 "ratio_of" m_ratio_of
  a_own_bottom : AttrOk cn "own_bottom" ta_own_bottom
  a_own_entries : AttrOk cn "own_entries" ta_own_entries
  a_own_modulus : AttrOk cn "own_modulus" ta_own_modulus
  a_own_order : AttrOk cn "own_order" ta_own_order
  a_own_tops : AttrOk cn "own_tops" ta_own_tops
theorem S_Row_init : FnScope ["self", "entries", "modulus", "line", "tops", "bottom", "top"] ["self", "entries", "modulus"] (defScope s_Row_init) := ⟨rfl, rfl, rfl, by decide +kernel, rfl, by decide +kernel, by decide +kernel⟩
theorem Q_Row_init (hK : K = cn.K) (G : Gs mg) (T : T_Row_init P w K mg base cn) (TB : TabG' base K mg cn f) (F : FunD K "__init__" "Row.__init__" (defArgs s_Row_init) (defBody s_Row_init) (defScope s_Row_init) [] [("modulus", (.int (0)))] f fd) : OkI P w K mg base cn 12 f fd ["self", "entries", "modulus"] 3 i_Row :=
  io1C (k := 11) hK F TB.c S_Row_init fun A outer s H E c Z =>
    (dss_cons (ds_set (g_name 3 Z) (e_call Z T.d_line_told (by decide) (da_cons (e_var 1) (da_cons (e_var 2) da_nil))))
    (dss_cons (ds_asg (de_tup (da_cons (e_tuple Z G.f_tuple (e_ix Z (e_var 3) de_int)) (da_cons (e_ix Z (e_var 3) de_int) da_nil))) (dg_tup Z.calm Z.hK (dgs_cons (dg_name (g_nm 4 Z.nd)) (dgs_cons (dg_name (g_nm 5 Z.nd)) dgs_nil))))
    (dss_cons (s_self (i := 0) Z T.a_own_tops (pv 0) (e_var 4))
    (dss_cons (s_self (i := 0) Z T.a_own_bottom (pv 0) (e_var 5))
    (dss_cons (s_self (i := 0) Z T.a_own_modulus (pv 0) (e_var 2))
    (dss_cons (s_self (i := 0) Z T.a_own_order (pv 0) (de_next Z TB.tb rfl TB.g TB.q (genS_by (show genSB _ _ _ = true by decide +kernel)) (e_var 4) G.f_next G.f_enumerate))
    (dss_one (s_self (i := 0) Z T.a_own_entries (pv 0) (de_ifExp (t_gt (e_var 2) de_int) (e_var 4) (e_tuple Z G.f_tuple (de_frz (do_lc (own := [("top", 6)]) Z.calm Z.nd (r_list Z (e_var 4)) (blkOk_by (N := ["self", "entries", "modulus", "line", "tops", "bottom", "top"]) (sc := defScope s_Row_init) (own := [("top", 6)]) (by decide +kernel)) (by decide) (fun s H C cl fp => (dg_name (g_nm 6 Z.nd))) (fun s H C cl fp c1 h1 => dts_nil) (fun s H C cl fp c1 h1 => (e_call (Ctx.blk Z h1 s H _ _ fp) T.d_ratio_of (by decide) (da_cons (e_var 6) (da_cons (e_var 5) da_nil))))))))))))))))
theorem D_Row_init (hK : K = cn.K) (G : Gs mg) (T : T_Row_init P w K mg base cn) (TB : TabG' base K mg cn f) (F : FunD K "__init__" "Row.__init__" (defArgs s_Row_init) (defBody s_Row_init) (defScope s_Row_init) [] [("modulus", (.int (0)))] f fd) : Dx.FnR P w K mg base (L2.CX P w) 12 f (spI cn 3 (dfl i_Row (.int (0)))) := by
  have hb := FunD.binds0 (ps := ["self", "entries", "modulus"]) F 2 (by simp) (by rfl) fun _ _ _ _ _ _ us ks h1 h2 => match us, ks, h1, h2 with | [_, _], [_], _, _ => ⟨_, _, _, _, _, _, rfl, rfl, rfl⟩
  exact (Q_Row_init hK G T TB F).dfl rfl rfl rfl hb
theorem W_Row_init (hK : K = cn.K) (G : Gs mg) (T : T_Row_init P w K mg base cn) (TB : TabG' base K mg cn f) (F : FunD K "__init__" "Row.__init__" (defArgs s_Row_init) (defBody s_Row_init) (defScope s_Row_init) [] [("modulus", (.int (0)))] f fd) : Dx.FnRK P w K mg base (L2.CX P w) 12 f 2 ["modulus"] (spI cn 3 i_Row) := by
  obtain ⟨mv, hb⟩ := FunD.kbinds0 (ps := ["self", "entries", "modulus"]) F 2 ["modulus"] [] (fun us mv ws => us ++ ws) (by simp) (by simp) (fun a _ b => a.append b) fun _ _ _ _ _ _ us mv ws h1 h2 h3 => match us, mv, ws, h1, h2, h3 with | [_, _], [], [_], _, _, _ => rfl
  exact (Q_Row_init hK G T TB F).kw hb rfl
structure T_row_with (P : Program) (w : World) (K : PySem.W.Frag) (mg : Str → Option Value) (base : Heap) (cn : Cn) : Prop where
  d_line_of : Cal P w K mg base cn 2 "line_of" m_line_of
  w_Row : MkrK P w K mg base cn 12 "Row" 1 ["modulus"] 3 i_Row
  k_Made : Mkr P w K mg base cn 2 "Made" 2 i_Made
theorem S_row_with : FnScope ["line", "modulus", "is_low"] ["line", "modulus", "is_low"] (defScope s_row_with) := ⟨rfl, rfl, rfl, by decide +kernel, rfl, by decide +kernel, by decide +kernel⟩
theorem Q_row_with (hK : K = cn.K) (G : Gs mg) (T : T_row_with P w K mg base cn) (F : FunD K "row_with" "row_with" (defArgs s_row_with) (defBody s_row_with) (defScope s_row_with) [(.bl true)] [] f fd) : OkF P w K mg base cn 14 f fd ["line", "modulus", "is_low"] m_row_with :=
  fo1 (k := 13) hK F S_row_with fun cdv A outer s H E c Z =>
    (dss_one (ds_ret (e_makeK Z T.w_Row (by decide) (da_cons (e_make Z T.k_Made (by decide) (da_cons (de_ifExp (t_tru Z (e_var 2)) (e_var 0) (e_call Z T.d_line_of (by decide) (da_cons (e_ix Z (e_var 0) de_int) (da_cons (e_ix Z (e_var 0) de_int) (da_cons (e_var 1) da_nil))))) da_nil)) da_nil) (dk_cons (e_var 1) dk_nil))))
theorem R_row_with (hK : K = cn.K) (G : Gs mg) (T : T_row_with P w K mg base cn) (F : FunD K "row_with" "row_with" (defArgs s_row_with) (defBody s_row_with) (defScope s_row_with) [(.bl true)] [] f fd) : Dx.FnR P w K mg base (L2.CX P w) 14 f (spF cn m_row_with) := by
  have hb := FunD.binds1 (ps := ["line", "modulus", "is_low"]) F 3 1 (by simp) (by rfl) fun _ _ _ _ _ _ _ us its h1 h2 => match us, its, h1, h2 with | [_, _, _], [_], _, _ => ⟨_, rfl, rfl⟩
  obtain ⟨ds, hb⟩ := hb
  exact (Q_row_with hK G T F).all rfl rfl hb
theorem D_row_with (hK : K = cn.K) (G : Gs mg) (T : T_row_with P w K mg base cn) (F : FunD K "row_with" "row_with" (defArgs s_row_with) (defBody s_row_with) (defScope s_row_with) [(.bl true)] [] f fd) : Dx.FnR P w K mg base (L2.CX P w) 14 f (spF cn (dfl m_row_with (.bl true))) := by
  have hb := FunD.binds1 (ps := ["line", "modulus", "is_low"]) F 2 0 (by simp) (by rfl) fun _ _ _ _ _ _ _ us its h1 h2 => match us, its, h1, h2 with | [_, _], [_], _, _ => ⟨_, rfl, rfl⟩
  exact (Q_row_with hK G T F).dfl rfl rfl rfl hb
structure T_row_in (P : Program) (w : World) (K : PySem.W.Frag) (mg : Str → Option Value) (base : Heap) (cn : Cn) : Prop where
  d_line_exp : Cal P w K mg base cn 6 "line_exp" m_line_exp
  d_line_of_pairs : Cal P w K mg base cn 4 "line_of_pairs" m_line_of_pairs
  d_row_with : Cal P w K mg base cn 14 "row_with" m_row_with
  D_row_with : Cal P w K mg base cn 14 "row_with" (dfl m_row_with (.bl true))
theorem S_row_in : FnScope ["numbers", "pairs", "place", "number"] ["numbers"] (defScope s_row_in) := ⟨rfl, rfl, rfl, by decide +kernel, rfl, by decide +kernel, by decide +kernel⟩
theorem R_row_in (hK : K = cn.K) (G : Gs mg) (T : T_row_in P w K mg base cn) (F : FunD K "row_in" "row_in" (defArgs s_row_in) (defBody s_row_in) (defScope s_row_in) [] [] f fd) : Dx.FnR P w K mg base (L2.CX P w) 16 f (spF cn m_row_in) :=
  fn0 (k := 15) hK F S_row_in (FunD.bindsN F fun _ _ _ _ _ _ us hl => match us, hl with | [_], _ => rfl) fun cdv A outer s H E c Z =>
    (dss_cons (ds_set (g_name 1 Z) (de_frz (do_lst (da_cons (de_tup (da_cons de_int (da_cons de_int da_nil))) (da_star Z.hK (de_frz (do_lc (own := [("place", 2), ("number", 3)]) Z.calm Z.nd (di_enum Z.hK (by rfl) G.f_enumerate (da_cons (e_var 0) da_nil)) (blkOk_by (N := ["numbers", "pairs", "place", "number"]) (sc := defScope s_row_in) (own := [("place", 2), ("number", 3)]) (by decide +kernel)) (by decide) (fun s H C cl fp => (dg_tup Z.calm Z.hK (dgs_cons (dg_name (g_nm 2 Z.nd)) (dgs_cons (dg_name (g_nm 3 Z.nd)) dgs_nil)))) (fun s H C cl fp c1 h1 => dts_nil) (fun s H C cl fp c1 h1 => (de_tup (da_cons (e_var 3) (da_cons (e_add (Ctx.blk Z h1 s H _ _ fp) (e_var 2) de_int) da_nil)))))) da_nil)))))
    (dss_one (ds_ret (e_call Z T.D_row_with (by decide) (da_cons (e_call Z T.d_line_exp (by decide) (da_cons (e_call Z T.d_line_of_pairs (by decide) (da_cons (e_var 1) da_nil)) da_nil)) (da_cons de_int da_nil))))))
structure T_artin_row (P : Program) (w : World) (K : PySem.W.Frag) (mg : Str → Option Value) (base : Heap) (cn : Cn) : Prop where
  d_require_count : Cal P w K mg base cn 8 "require_count" m_require_count
  d_require_prime : Cal P w K mg base cn 6 "require_prime" m_require_prime
  d_row_in : Cal P w K mg base cn 16 "row_in" m_row_in
theorem S_artin_row : FnScope ["prime", "degree", "numbers", "power"] ["prime", "degree"] (defScope s_artin_row) := ⟨rfl, rfl, rfl, by decide +kernel, rfl, by decide +kernel, by decide +kernel⟩
theorem R_artin_row (hK : K = cn.K) (G : Gs mg) (T : T_artin_row P w K mg base cn) (F : FunD K "artin_row" "artin_row" (defArgs s_artin_row) (defBody s_artin_row) (defScope s_artin_row) [] [] f fd) : Dx.FnR P w K mg base (L2.CX P w) 18 f (spF cn m_artin_row) :=
  fn0 (k := 17) hK F S_artin_row (FunD.bindsN F fun _ _ _ _ _ _ us hl => match us, hl with | [_, _], _ => rfl) fun cdv A outer s H E c Z =>
    (dss_cons (ds_expr (e_call Z T.d_require_prime (by decide) (da_cons (e_var 0) da_nil)))
    (dss_cons (ds_expr (e_call Z T.d_require_count (by decide) (da_cons (e_var 1) (da_cons de_int (da_cons (de_gint (by rfl) G.c_MAX_GHOSTS) da_nil)))))
    (dss_cons (ds_par2M (i := 2) (j := 3) Z rfl rfl (by decide) rfl rfl (dm_o Z (do_rep (de_frz (do_lst (da_cons de_int da_nil))) (e_var 1)) (fun ct ht Zt => (dm_v de_int dm_nil))) (by rfl))
    (dss_cons (ds_while 64 Z.pass (t_le (e_var 3) (e_var 1)) (dss_cons (ds_ownSet (i := 2) (pv 2) (e_sub (e_var 3) de_int) de_int)
    (dss_one (s_amul 3 Z (e_var 0)))))
    (dss_one (ds_ret (e_call Z T.d_row_in (by decide) (da_cons (e_var 2) da_nil))))))))
structure T__law_dice (P : Program) (w : World) (K : PySem.W.Frag) (mg : Str → Option Value) (base : Heap) (cn : Cn) : Prop where
  u : True
theorem S__law_dice : FnScope ["_law_script", "_law_spot", "_law_cell", "_law_left"] ["_law_script", "_law_spot"] (defScope s__law_dice) := ⟨rfl, rfl, rfl, by decide +kernel, rfl, by decide +kernel, by decide +kernel⟩
theorem R__law_dice (hK : K = cn.K) (G : Gs mg) (T : T__law_dice P w K mg base cn) (F : FunD K "_law_dice" "_law_dice" (defArgs s__law_dice) (defBody s__law_dice) (defScope s__law_dice) [] [] f fd) : Dx.FnR P w K mg base (L2.CX P w) 2 f (spF cn m__law_dice) :=
  fn0 (k := 1) hK F S__law_dice (FunD.bindsN F fun _ _ _ _ _ _ us hl => match us, hl with | [_, _], _ => rfl) fun cdv A outer s H E c Z =>
    (dss_cons (ds_set (g_name 2 Z) (de_ifExp (t_lt (e_var 1) (e_len Z G.f_len (e_var 0))) (e_int G.f_int (e_ix Z (e_var 0) (e_var 1))) (e_add Z (e_mul Z de_int (e_var 1)) de_int)))
    (dss_cons (ds_set (g_name 3 Z) (e_mod (e_max Z G.f_max de_int (e_sub (e_abs G.f_abs (e_var 2)) (e_pow de_int de_int))) (e_mul Z (e_pow de_int de_int) (e_pow de_int de_int))))
    (dss_one (ds_retO (do_lst (da_cons (e_var 3) (da_cons (e_add Z (e_add Z (e_add Z (e_mul Z (e_mod (e_abs G.f_abs (e_var 2)) de_int) de_int) (e_mul Z de_int (e_var 1))) (e_mul Z de_int (e_int G.f_int (e_lt (e_var 2) de_int)))) de_int) (da_cons de_int da_nil))))))))
structure T__law_met (P : Program) (w : World) (K : PySem.W.Frag) (mg : Str → Option Value) (base : Heap) (cn : Cn) : Prop where
  n_InvalidCount : mg "InvalidCount" = some (.ref (cn.cA 14))
  n_InvalidGhosts : mg "InvalidGhosts" = some (.ref (cn.cA 11))
  n_InvalidModulus : mg "InvalidModulus" = some (.ref (cn.cA 8))
  n_InvalidOperation : mg "InvalidOperation" = some (.ref (cn.cA 12))
  n_InvalidPrime : mg "InvalidPrime" = some (.ref (cn.cA 10))
  n_InvalidRow : mg "InvalidRow" = some (.ref (cn.cA 9))
  xf_value : XfOk cn "value" xfT_value
  xm : ExmOk cn xmT
theorem S__law_met : FnScope ["_law_call", "e"] ["_law_call"] (defScope s__law_met) := ⟨rfl, rfl, rfl, by decide +kernel, rfl, by decide +kernel, by decide +kernel⟩
theorem R__law_met (hK : K = cn.K) (G : Gs mg) (T : T__law_met P w K mg base cn) (F : FunD K "_law_met" "_law_met" (defArgs s__law_met) (defBody s__law_met) (defScope s__law_met) [] [] f fd) (hm : mg "_law_met" = some (.ref f)) : ThkOk P w K mg base cn 2 "_law_met" m__law_met :=
  th0 (k := 2) F S__law_met hm (FunD.bindsN F fun _ _ _ _ _ _ us hl => match us, hl with | [_], _ => rfl) fun cdv A outer s H E c t Z act =>
    (dss_cons (s_try Z T.xm (fun W2 pn xe Z2 => (dss_one (ds_expr (act W2 pn xe _ _ Z2.tk)))) (DHs.one (Z.nm T.n_InvalidGhosts) (fun a pn => (dss_one (ds_ret de_str))) (DHs.one (Z.nm T.n_InvalidRow) (fun a pn => (dss_one (ds_ret de_str))) (DHs.one (Z.nm T.n_InvalidPrime) (fun a pn => (dss_one (ds_ret de_str))) (DHs.one (Z.nm T.n_InvalidModulus) (fun a pn => (dss_one (ds_ret de_str))) (DHs.one (Z.nm T.n_InvalidOperation) (fun a pn => (dss_one (ds_ret de_str))) (DHs.nam (i := 1) rfl rfl (Z.nm T.n_InvalidCount) (fun a oe pn c' ae ea az adat => (dss_one (ds_ret (e_addS (AcEq.K ae Z.hK) de_str (e_reprH (AcEq.K ae Z.hK) Z.hr.gd Z.hr.units G.f_repr (de_err (i := 1) Z.hK (Z.hc ▸ T.xf_value) ae ea az adat (pv 1))))))) DHs.nil)))))))
    (dss_one (ds_ret de_str)))
structure T_ghost_fault (P : Program) (w : World) (K : PySem.W.Frag) (mg : Str → Option Value) (base : Heap) (cn : Cn) : Prop where
  d_fault_in : Cal P w K mg base cn 8 "fault_in" m_fault_in
  d_require_numbers : Cal P w K mg base cn 8 "require_numbers" m_require_numbers
theorem S_ghost_fault : FnScope ["numbers"] ["numbers"] (defScope s_ghost_fault) := ⟨rfl, rfl, rfl, by decide +kernel, rfl, by decide +kernel, by decide +kernel⟩
theorem R_ghost_fault (hK : K = cn.K) (G : Gs mg) (T : T_ghost_fault P w K mg base cn) (F : FunD K "ghost_fault" "ghost_fault" (defArgs s_ghost_fault) (defBody s_ghost_fault) (defScope s_ghost_fault) [] [] f fd) : Dx.FnR P w K mg base (L2.CX P w) 10 f (spF cn m_ghost_fault) :=
  fn0 (k := 9) hK F S_ghost_fault (FunD.bindsN F fun _ _ _ _ _ _ us hl => match us, hl with | [_], _ => rfl) fun cdv A outer s H E c Z =>
    (dss_cons (ds_expr (e_call Z T.d_require_numbers (by decide) (da_cons (e_var 0) da_nil)))
    (dss_one (ds_ret (e_call Z T.d_fault_in (by decide) (da_cons (e_var 0) da_nil)))))
structure T_ghost_row (P : Program) (w : World) (K : PySem.W.Frag) (mg : Str → Option Value) (base : Heap) (cn : Cn) : Prop where
  d_require_numbers : Cal P w K mg base cn 8 "require_numbers" m_require_numbers
  d_row_in : Cal P w K mg base cn 16 "row_in" m_row_in
theorem S_ghost_row : FnScope ["numbers"] ["numbers"] (defScope s_ghost_row) := ⟨rfl, rfl, rfl, by decide +kernel, rfl, by decide +kernel, by decide +kernel⟩
theorem R_ghost_row (hK : K = cn.K) (G : Gs mg) (T : T_ghost_row P w K mg base cn) (F : FunD K "ghost_row" "ghost_row" (defArgs s_ghost_row) (defBody s_ghost_row) (defScope s_ghost_row) [] [] f fd) : Dx.FnR P w K mg base (L2.CX P w) 18 f (spF cn m_ghost_row) :=
  fn0 (k := 17) hK F S_ghost_row (FunD.bindsN F fun _ _ _ _ _ _ us hl => match us, hl with | [_], _ => rfl) fun cdv A outer s H E c Z =>
    (dss_cons (ds_expr (e_call Z T.d_require_numbers (by decide) (da_cons (e_var 0) da_nil)))
    (dss_one (ds_ret (e_call Z T.d_row_in (by decide) (da_cons (e_var 0) da_nil)))))
structure T__law_roll (P : Program) (w : World) (K : PySem.W.Frag) (mg : Str → Option Value) (base : Heap) (cn : Cn) : Prop where
  u : True
theorem S__law_roll : FnScope ["_law_dice_here", "_law_total", "_law_found", "_law_one", "_law_two"] ["_law_dice_here", "_law_total"] (defScope s__law_roll) := ⟨rfl, rfl, rfl, by decide +kernel, rfl, by decide +kernel, by decide +kernel⟩
theorem R__law_roll (hK : K = cn.K) (G : Gs mg) (T : T__law_roll P w K mg base cn) (F : FunD K "_law_roll" "_law_roll" (defArgs s__law_roll) (defBody s__law_roll) (defScope s__law_roll) [] [] f fd) : Dx.FnR P w K mg base (L2.CX P w) 2 f (spF cn m__law_roll) :=
  fn0 (k := 1) hK F S__law_roll (FunD.bindsN F fun _ _ _ _ _ _ us hl => match us, hl with | [_, _], _ => rfl) fun cdv A outer s H E c Z =>
    (dss_cons (ds_if (t_gt (de_die (i := 0) (k := 0) (by decide) Z.hK (pv 0) (fun _ _ => rfl)) de_int) (dss_cons (ds_set (g_name 2 Z) (e_mod (e_int G.f_int (de_die (i := 0) (k := 0) (by decide) Z.hK (pv 0) (fun _ _ => rfl))) (e_var 1)))
    (dss_cons (ds_die (i := 0) (k := 0) (by decide) Z.hK (pv 0) (e_div (de_die (i := 0) (k := 0) (by decide) Z.hK (pv 0) (fun _ _ => rfl)) (e_var 1)))
    (dss_one (ds_ret (e_var 2))))) dss_nil)
    (dss_cons (ds_die (i := 0) (k := 2) (by decide) Z.hK (pv 0) (e_add Z (de_die (i := 0) (k := 2) (by decide) Z.hK (pv 0) (fun _ _ => rfl)) de_int))
    (dss_cons (ds_set (g_name 3 Z) (e_mod (e_int G.f_int (e_add Z (de_die (i := 0) (k := 1) (by decide) Z.hK (pv 0) (fun _ _ => rfl)) (e_mul Z de_int (de_die (i := 0) (k := 2) (by decide) Z.hK (pv 0) (fun _ _ => rfl))))) de_int))
    (dss_cons (ds_set (g_name 4 Z) (e_add Z (e_mul Z (e_mod (e_int G.f_int (e_add Z (e_mul Z (e_var 3) (e_var 3)) (e_mul Z de_int (de_die (i := 0) (k := 2) (by decide) Z.hK (pv 0) (fun _ _ => rfl))))) de_int) de_int) (e_var 3)))
    (dss_one (ds_ret (e_mod (e_int G.f_int (e_div (e_var 4) de_int)) (e_var 1))))))))
structure T__law_pick (P : Program) (w : World) (K : PySem.W.Frag) (mg : Str → Option Value) (base : Heap) (cn : Cn) : Prop where
  d__law_roll : Cal P w K mg base cn 2 "_law_roll" m__law_roll
theorem S__law_pick : FnScope ["_law_dice_here", "_law_items"] ["_law_dice_here", "_law_items"] (defScope s__law_pick) := ⟨rfl, rfl, rfl, by decide +kernel, rfl, by decide +kernel, by decide +kernel⟩
theorem R__law_pick (hK : K = cn.K) (G : Gs mg) (T : T__law_pick P w K mg base cn) (F : FunD K "_law_pick" "_law_pick" (defArgs s__law_pick) (defBody s__law_pick) (defScope s__law_pick) [] [] f fd) : Dx.FnR P w K mg base (L2.CX P w) 4 f (spF cn m__law_pick) :=
  fn0 (k := 3) hK F S__law_pick (FunD.bindsN F fun _ _ _ _ _ _ us hl => match us, hl with | [_, _], _ => rfl) fun cdv A outer s H E c Z =>
    (dss_one (ds_ret (e_ix Z (e_var 1) (e_call Z T.d__law_roll (by decide) (da_cons (e_var 0) (da_cons (e_len Z G.f_len (e_var 1)) da_nil))))))
structure T_Ratio___eq__ (P : Program) (w : World) (K : PySem.W.Frag) (mg : Str → Option Value) (base : Heap) (cn : Cn) : Prop where
  j_Ratio : ∃ C, mg "Ratio" = some (.ref C) ∧ IsiOk cn C tj_Ratio
  a_own_bottom : AttrOk cn "own_bottom" ta_own_bottom
  a_own_top : AttrOk cn "own_top" ta_own_top
theorem S_Ratio___eq__ : FnScope ["self", "other"] ["self", "other"] (defScope s_Ratio___eq__) := ⟨rfl, rfl, rfl, by decide +kernel, rfl, by decide +kernel, by decide +kernel⟩
theorem R_Ratio___eq__ (hK : K = cn.K) (G : Gs mg) (T : T_Ratio___eq__ P w K mg base cn) (F : FunD K "__eq__" "Ratio.__eq__" (defArgs s_Ratio___eq__) (defBody s_Ratio___eq__) (defScope s_Ratio___eq__) [] [] f fd) : Dx.FnR P w K mg base (L2.CX P w) 2 f (spF cn m_Ratio___eq__) :=
  fn0 (k := 1) hK F S_Ratio___eq__ (FunD.bindsN F fun _ _ _ _ _ _ us hl => match us, hl with | [_, _], _ => rfl) fun cdv A outer s H E c Z =>
    (dss_cons (ds_if (dt_not (t_tru Z (e_isi Z T.j_Ratio G.f_isinstance (e_var 1)))) (dss_one (ds_ret de_bl)) dss_nil)
    (dss_one (ds_ret (de_and (e_eqX Z (e_attr Z T.a_own_top (e_var 0)) (e_attr Z T.a_own_top (e_var 1))) (de_one (e_eqX Z (e_attr Z T.a_own_bottom (e_var 0)) (e_attr Z T.a_own_bottom (e_var 1))))))))
structure T_Row___eq__ (P : Program) (w : World) (K : PySem.W.Frag) (mg : Str → Option Value) (base : Heap) (cn : Cn) : Prop where
  j_Row : ∃ C, mg "Row" = some (.ref C) ∧ IsiOk cn C tj_Row
  a_own_bottom : AttrOk cn "own_bottom" ta_own_bottom
  a_own_modulus : AttrOk cn "own_modulus" ta_own_modulus
  a_own_tops : AttrOk cn "own_tops" ta_own_tops
theorem S_Row___eq__ : FnScope ["self", "other"] ["self", "other"] (defScope s_Row___eq__) := ⟨rfl, rfl, rfl, by decide +kernel, rfl, by decide +kernel, by decide +kernel⟩
theorem R_Row___eq__ (hK : K = cn.K) (G : Gs mg) (T : T_Row___eq__ P w K mg base cn) (F : FunD K "__eq__" "Row.__eq__" (defArgs s_Row___eq__) (defBody s_Row___eq__) (defScope s_Row___eq__) [] [] f fd) : Dx.FnR P w K mg base (L2.CX P w) 2 f (spF cn m_Row___eq__) :=
  fn0 (k := 1) hK F S_Row___eq__ (FunD.bindsN F fun _ _ _ _ _ _ us hl => match us, hl with | [_, _], _ => rfl) fun cdv A outer s H E c Z =>
    (dss_cons (ds_if (dt_w (dw_or (dt_not (t_tru Z (e_isi Z T.j_Row G.f_isinstance (e_var 1)))) (dw_or1 (t_ne Z (e_attr Z T.a_own_modulus (e_var 0)) (e_attr Z T.a_own_modulus (e_var 1)))))) (dss_one (ds_ret de_bl)) dss_nil)
    (dss_one (ds_ret (de_and (e_eqX Z (e_attr Z T.a_own_tops (e_var 0)) (e_attr Z T.a_own_tops (e_var 1))) (de_one (e_eqX Z (e_attr Z T.a_own_bottom (e_var 0)) (e_attr Z T.a_own_bottom (e_var 1))))))))
structure T_power_of (P : Program) (w : World) (K : PySem.W.Frag) (mg : Str → Option Value) (base : Heap) (cn : Cn) : Prop where
  u : True
theorem S_power_of : FnScope ["number", "many", "found", "turn"] ["number", "many"] (defScope s_power_of) := ⟨rfl, rfl, rfl, by decide +kernel, rfl, by decide +kernel, by decide +kernel⟩
theorem R_power_of (hK : K = cn.K) (G : Gs mg) (T : T_power_of P w K mg base cn) (F : FunD K "power_of" "power_of" (defArgs s_power_of) (defBody s_power_of) (defScope s_power_of) [] [] f fd) : Dx.FnR P w K mg base (L2.CX P w) 2 f (spF cn m_power_of) :=
  fn0 (k := 1) hK F S_power_of (FunD.bindsN F fun _ _ _ _ _ _ us hl => match us, hl with | [_, _], _ => rfl) fun cdv A outer s H E c Z =>
    (dss_cons (ds_set (g_name 2 Z) de_int)
    (dss_cons (ds_for Z.pass Z.calm (di_range1 (by rfl) G.f_range (da_cons (e_var 1) da_nil)) (dg_name (g_nm 3 Z.nd)) (dss_one (s_amul 2 Z (e_var 0))))
    (dss_one (ds_ret (e_var 2)))))
structure T_coordinate_total (P : Program) (w : World) (K : PySem.W.Frag) (mg : Str → Option Value) (base : Heap) (cn : Cn) : Prop where
  d_power_of : Cal P w K mg base cn 2 "power_of" m_power_of
theorem S_coordinate_total : FnScope ["coordinates", "number", "parts", "part"] ["coordinates", "number", "parts"] (defScope s_coordinate_total) := ⟨rfl, rfl, rfl, by decide +kernel, rfl, by decide +kernel, by decide +kernel⟩
theorem R_coordinate_total (hK : K = cn.K) (G : Gs mg) (T : T_coordinate_total P w K mg base cn) (F : FunD K "coordinate_total" "coordinate_total" (defArgs s_coordinate_total) (defBody s_coordinate_total) (defScope s_coordinate_total) [] [] f fd) : Dx.FnR P w K mg base (L2.CX P w) 4 f (spF cn m_coordinate_total) :=
  fn0 (k := 3) hK F S_coordinate_total (FunD.bindsN F fun _ _ _ _ _ _ us hl => match us, hl with | [_, _, _], _ => rfl) fun cdv A outer s H E c Z =>
    (dss_one (ds_ret (e_sum Z G.f_sum (de_frz (do_lc (own := [("part", 3)]) Z.calm Z.nd (r_list Z (e_var 2)) (blkOk_by (N := ["coordinates", "number", "parts", "part"]) (sc := defScope s_coordinate_total) (own := [("part", 3)]) (by decide +kernel)) (by decide) (fun s H C cl fp => (dg_name (g_nm 3 Z.nd))) (fun s H C cl fp c1 h1 => dts_nil) (fun s H C cl fp c1 h1 => (e_mul (Ctx.blk Z h1 s H _ _ fp) (e_var 3) (e_call (Ctx.blk Z h1 s H _ _ fp) T.d_power_of (by decide) (da_cons (e_ix (Ctx.blk Z h1 s H _ _ fp) (e_var 0) (e_sub (e_var 3) de_int)) (da_cons (e_div (e_var 1) (e_var 3)) da_nil))))))))))
structure T_ghosts_in (P : Program) (w : World) (K : PySem.W.Frag) (mg : Str → Option Value) (base : Heap) (cn : Cn) : Prop where
  d_coordinate_total : Cal P w K mg base cn 4 "coordinate_total" m_coordinate_total
  d_divisors_in : Cal P w K mg base cn 4 "divisors_in" m_divisors_in
theorem S_ghosts_in : FnScope ["coordinates", "indices", "number"] ["coordinates"] (defScope s_ghosts_in) := ⟨rfl, rfl, rfl, by decide +kernel, rfl, by decide +kernel, by decide +kernel⟩
theorem R_ghosts_in (hK : K = cn.K) (G : Gs mg) (T : T_ghosts_in P w K mg base cn) (F : FunD K "ghosts_in" "ghosts_in" (defArgs s_ghosts_in) (defBody s_ghosts_in) (defScope s_ghosts_in) [] [] f fd) : Dx.FnR P w K mg base (L2.CX P w) 6 f (spF cn m_ghosts_in) :=
  fn0 (k := 5) hK F S_ghosts_in (FunD.bindsN F fun _ _ _ _ _ _ us hl => match us, hl with | [_], _ => rfl) fun cdv A outer s H E c Z =>
    (dss_cons (ds_set (g_name 1 Z) (e_range2 G.f_range de_int (e_add Z (e_len Z G.f_len (e_var 0)) de_int)))
    (dss_one (ds_ret (e_tuple Z G.f_tuple (de_frz (do_lc (own := [("number", 2)]) Z.calm Z.nd (di_rng (e_var 1)) (blkOk_by (N := ["coordinates", "indices", "number"]) (sc := defScope s_ghosts_in) (own := [("number", 2)]) (by decide +kernel)) (by decide) (fun s H C cl fp => (dg_name (g_nm 2 Z.nd))) (fun s H C cl fp c1 h1 => dts_nil) (fun s H C cl fp c1 h1 => (e_call (Ctx.blk Z h1 s H _ _ fp) T.d_coordinate_total (by decide) (da_cons (e_var 0) (da_cons (e_var 2) (da_cons (e_call (Ctx.blk Z h1 s H _ _ fp) T.d_divisors_in (by decide) (da_cons (e_var 2) da_nil)) da_nil)))))))))))
structure T_told_coordinates (P : Program) (w : World) (K : PySem.W.Frag) (mg : Str → Option Value) (base : Heap) (cn : Cn) : Prop where
  d_require_numbers : Cal P w K mg base cn 8 "require_numbers" m_require_numbers
  j_Told : ∃ C, mg "Told" = some (.ref C) ∧ IsiOk cn C tj_Told
  a_own_numbers : AttrOk cn "own_numbers" ta_own_numbers
theorem S_told_coordinates : FnScope ["value"] ["value"] (defScope s_told_coordinates) := ⟨rfl, rfl, rfl, by decide +kernel, rfl, by decide +kernel, by decide +kernel⟩
theorem R_told_coordinates (hK : K = cn.K) (G : Gs mg) (T : T_told_coordinates P w K mg base cn) (F : FunD K "told_coordinates" "told_coordinates" (defArgs s_told_coordinates) (defBody s_told_coordinates) (defScope s_told_coordinates) [] [] f fd) : Dx.FnR P w K mg base (L2.CX P w) 10 f (spF cn m_told_coordinates) :=
  fn0 (k := 9) hK F S_told_coordinates (FunD.bindsN F fun _ _ _ _ _ _ us hl => match us, hl with | [_], _ => rfl) fun cdv A outer s H E c Z =>
    (dss_cons (ds_if (t_tru Z (e_isi Z T.j_Told G.f_isinstance (e_var 0))) (dss_one (ds_ret (e_attr Z T.a_own_numbers (e_var 0)))) dss_nil)
    (dss_cons (ds_expr (e_call Z T.d_require_numbers (by decide) (da_cons (e_var 0) da_nil)))
    (dss_one (ds_ret (e_var 0)))))
structure T_Witt_init (P : Program) (w : World) (K : PySem.W.Frag) (mg : Str → Option Value) (base : Heap) (cn : Cn) : Prop where
  d_counts_in : Cal P w K mg base cn 8 "counts_in" m_counts_in
  d_ghosts_in : Cal P w K mg base cn 6 "ghosts_in" m_ghosts_in
  d_told_coordinates : Cal P w K mg base cn 10 "told_coordinates" m_told_coordinates
  a_own_coordinates : AttrOk cn "own_coordinates" ta_own_coordinates
  a_own_counts : AttrOk cn "own_counts" ta_own_counts
  a_own_ghosts : AttrOk cn "own_ghosts" ta_own_ghosts
theorem S_Witt_init : FnScope ["self", "coordinates"] ["self", "coordinates"] (defScope s_Witt_init) := ⟨rfl, rfl, rfl, by decide +kernel, rfl, by decide +kernel, by decide +kernel⟩
theorem R_Witt_init (hK : K = cn.K) (G : Gs mg) (T : T_Witt_init P w K mg base cn) (F : FunD K "__init__" "Witt.__init__" (defArgs s_Witt_init) (defBody s_Witt_init) (defScope s_Witt_init) [] [] f fd) : Dx.FnR P w K mg base (L2.CX P w) 12 f (spI cn 5 i_Witt) :=
  in0 (k := 11) hK F S_Witt_init (FunD.bindsN F fun _ _ _ _ _ _ us hl => match us, hl with | [_, _], _ => rfl) fun cdv A outer s H E c Z =>
    (dss_cons (s_self (i := 0) Z T.a_own_coordinates (pv 0) (e_call Z T.d_told_coordinates (by decide) (da_cons (e_var 1) da_nil)))
    (dss_cons (s_self (i := 0) Z T.a_own_ghosts (pv 0) (e_call Z T.d_ghosts_in (by decide) (da_cons (e_self (i := 0) Z T.a_own_coordinates (pv 0)) da_nil)))
    (dss_one (s_self (i := 0) Z T.a_own_counts (pv 0) (e_call Z T.d_counts_in (by decide) (da_cons (e_self (i := 0) Z T.a_own_ghosts (pv 0)) da_nil))))))
structure T_require_integer (P : Program) (w : World) (K : PySem.W.Frag) (mg : Str → Option Value) (base : Heap) (cn : Cn) : Prop where
  d_is_integer : Cal P w K mg base cn 6 "is_integer" m_is_integer
  r_InvalidCount : Xe1 P K mg cn "InvalidCount" 14
theorem S_require_integer : FnScope ["value"] ["value"] (defScope s_require_integer) := ⟨rfl, rfl, rfl, by decide +kernel, rfl, by decide +kernel, by decide +kernel⟩
theorem R_require_integer (hK : K = cn.K) (G : Gs mg) (T : T_require_integer P w K mg base cn) (F : FunD K "require_integer" "require_integer" (defArgs s_require_integer) (defBody s_require_integer) (defScope s_require_integer) [] [] f fd) : Dx.FnR P w K mg base (L2.CX P w) 8 f (spF cn m_require_integer) :=
  fn0 (k := 7) hK F S_require_integer (FunD.bindsN F fun _ _ _ _ _ _ us hl => match us, hl with | [_], _ => rfl) fun cdv A outer s H E c Z =>
    (dss_one (ds_if (dt_not (t_tru Z (e_call Z T.d_is_integer (by decide) (da_cons (e_var 0) da_nil)))) (dss_one (s_raise (k := 6) Z T.r_InvalidCount (e_var 0))) dss_nil))
structure T_Witt_single (P : Program) (w : World) (K : PySem.W.Frag) (mg : Str → Option Value) (base : Heap) (cn : Cn) : Prop where
  d_require_count : Cal P w K mg base cn 8 "require_count" m_require_count
  d_require_integer : Cal P w K mg base cn 8 "require_integer" m_require_integer
  mk_Witt_0 : MkrC P w K mg base cn 12 1 [] 5 i_Witt
theorem S_Witt_single : FnScope ["cls", "number", "degree", "turn"] ["cls", "number", "degree"] (defScope s_Witt_single) := ⟨rfl, rfl, rfl, by decide +kernel, rfl, by decide +kernel, by decide +kernel⟩
theorem R_Witt_single (hK : K = cn.K) (G : Gs mg) (T : T_Witt_single P w K mg base cn) (F : FunD K "single" "Witt.single" (defArgs s_Witt_single) (defBody s_Witt_single) (defScope s_Witt_single) [] [] f fd) : Dx.FnR P w K mg base (L2.CX P w) 14 f (spF cn m_Witt_single) :=
  fn0 (k := 13) hK F S_Witt_single (FunD.bindsN F fun _ _ _ _ _ _ us hl => match us, hl with | [_, _, _], _ => rfl) fun cdv A outer s H E c Z =>
    (dss_cons (ds_expr (e_call Z T.d_require_integer (by decide) (da_cons (e_var 1) da_nil)))
    (dss_cons (ds_expr (e_call Z T.d_require_count (by decide) (da_cons (e_var 2) (da_cons de_int (da_cons (de_gint (by rfl) G.c_MAX_GHOSTS) da_nil)))))
    (dss_one (ds_ret (e_makeC (i := 0) Z T.mk_Witt_0 (by decide) (pv 0) (da_cons (de_tup (da_cons (e_var 1) (da_star Z.hK (de_frz (do_lc (own := [("turn", 3)]) Z.calm Z.nd (di_range1 (by rfl) G.f_range (da_cons (e_sub (e_var 2) de_int) da_nil)) (blkOk_by (N := ["cls", "number", "degree", "turn"]) (sc := defScope s_Witt_single) (own := [("turn", 3)]) (by decide +kernel)) (by decide) (fun s H C cl fp => (dg_name (g_nm 3 Z.nd))) (fun s H C cl fp c1 h1 => dts_nil) (fun s H C cl fp c1 h1 => de_int))) da_nil))) da_nil) dk_nil)))))
structure T_coordinates_in (P : Program) (w : World) (K : PySem.W.Frag) (mg : Str → Option Value) (base : Heap) (cn : Cn) : Prop where
  d_coordinate_total : Cal P w K mg base cn 4 "coordinate_total" m_coordinate_total
  d_divisors_in : Cal P w K mg base cn 4 "divisors_in" m_divisors_in
theorem S_coordinates_in : FnScope ["ghosts", "found", "place", "total", "less"] ["ghosts"] (defScope s_coordinates_in) := ⟨rfl, rfl, rfl, by decide +kernel, rfl, by decide +kernel, by decide +kernel⟩
theorem R_coordinates_in (hK : K = cn.K) (G : Gs mg) (T : T_coordinates_in P w K mg base cn) (F : FunD K "coordinates_in" "coordinates_in" (defArgs s_coordinates_in) (defBody s_coordinates_in) (defScope s_coordinates_in) [] [] f fd) : Dx.FnR P w K mg base (L2.CX P w) 6 f (spF cn m_coordinates_in) :=
  fn0 (k := 5) hK F S_coordinates_in (FunD.bindsN F fun _ _ _ _ _ _ us hl => match us, hl with | [_], _ => rfl) fun cdv A outer s H E c Z =>
    (dss_cons (ds_setO (g_name 1 Z) (do_lst da_nil))
    (dss_cons (ds_for Z.pass Z.calm (di_enum Z.hK (by rfl) G.f_enumerate (da_cons (e_var 0) da_nil)) (dg_tup Z.calm Z.hK (dgs_cons (dg_name (g_nm 2 Z.nd)) (dgs_cons (dg_name (g_nm 3 Z.nd)) dgs_nil))) (dss_cons (ds_set (g_name 4 Z) (e_thaw 1 Z (fun ct ht Zt => (e_call Zt T.d_coordinate_total (by decide) (da_cons (e_var 1) (da_cons (e_add Zt (e_var 2) de_int) (da_cons (de_sl Zt.hK (e_call Zt T.d_divisors_in (by decide) (da_cons (e_add Zt (e_var 2) de_int) da_nil)) dp_none (dp_some (e_neg de_int))) da_nil)))))))
    (dss_one (ds_expr (de_app (i := 1) (pv 1) (e_div (e_sub (e_var 3) (e_var 4)) (e_add Z (e_var 2) de_int)))))))
    (dss_one (ds_ret (e_tuple Z G.f_tuple (e_var 1))))))
structure T_Told_init (P : Program) (w : World) (K : PySem.W.Frag) (mg : Str → Option Value) (base : Heap) (cn : Cn) : Prop where
  a_own_numbers : AttrOk cn "own_numbers" ta_own_numbers
theorem S_Told_init : FnScope ["self", "numbers"] ["self", "numbers"] (defScope s_Told_init) := ⟨rfl, rfl, rfl, by decide +kernel, rfl, by decide +kernel, by decide +kernel⟩
theorem R_Told_init (hK : K = cn.K) (G : Gs mg) (T : T_Told_init P w K mg base cn) (F : FunD K "__init__" "Told.__init__" (defArgs s_Told_init) (defBody s_Told_init) (defScope s_Told_init) [] [] f fd) : Dx.FnR P w K mg base (L2.CX P w) 2 f (spI cn 4 i_Told) :=
  in0 (k := 1) hK F S_Told_init (FunD.bindsN F fun _ _ _ _ _ _ us hl => match us, hl with | [_, _], _ => rfl) fun cdv A outer s H E c Z =>
    (dss_one (s_self (i := 0) Z T.a_own_numbers (pv 0) (e_var 1)))
structure T_Witt_of_ghosts (P : Program) (w : World) (K : PySem.W.Frag) (mg : Str → Option Value) (base : Heap) (cn : Cn) : Prop where
  d_coordinates_in : Cal P w K mg base cn 6 "coordinates_in" m_coordinates_in
  d_require_ghosts : Cal P w K mg base cn 10 "require_ghosts" m_require_ghosts
  k_Told : Mkr P w K mg base cn 2 "Told" 4 i_Told
  mk_Witt_0 : MkrC P w K mg base cn 12 1 [] 5 i_Witt
theorem S_Witt_of_ghosts : FnScope ["cls", "numbers"] ["cls", "numbers"] (defScope s_Witt_of_ghosts) := ⟨rfl, rfl, rfl, by decide +kernel, rfl, by decide +kernel, by decide +kernel⟩
theorem R_Witt_of_ghosts (hK : K = cn.K) (G : Gs mg) (T : T_Witt_of_ghosts P w K mg base cn) (F : FunD K "of_ghosts" "Witt.of_ghosts" (defArgs s_Witt_of_ghosts) (defBody s_Witt_of_ghosts) (defScope s_Witt_of_ghosts) [] [] f fd) : Dx.FnR P w K mg base (L2.CX P w) 14 f (spF cn m_Witt_of_ghosts) :=
  fn0 (k := 13) hK F S_Witt_of_ghosts (FunD.bindsN F fun _ _ _ _ _ _ us hl => match us, hl with | [_, _], _ => rfl) fun cdv A outer s H E c Z =>
    (dss_cons (ds_expr (e_call Z T.d_require_ghosts (by decide) (da_cons (e_var 1) da_nil)))
    (dss_one (ds_ret (e_makeC (i := 0) Z T.mk_Witt_0 (by decide) (pv 0) (da_cons (e_make Z T.k_Told (by decide) (da_cons (e_call Z T.d_coordinates_in (by decide) (da_cons (e_var 1) da_nil)) da_nil)) da_nil) dk_nil))))
structure T_require_row (P : Program) (w : World) (K : PySem.W.Frag) (mg : Str → Option Value) (base : Heap) (cn : Cn) : Prop where
  j_Row : ∃ C, mg "Row" = some (.ref C) ∧ IsiOk cn C tj_Row
  r_InvalidRow : Xe0 K mg cn "InvalidRow" 9
theorem S_require_row : FnScope ["value"] ["value"] (defScope s_require_row) := ⟨rfl, rfl, rfl, by decide +kernel, rfl, by decide +kernel, by decide +kernel⟩
theorem R_require_row (hK : K = cn.K) (G : Gs mg) (T : T_require_row P w K mg base cn) (F : FunD K "require_row" "require_row" (defArgs s_require_row) (defBody s_require_row) (defScope s_require_row) [] [] f fd) : Dx.FnR P w K mg base (L2.CX P w) 2 f (spF cn m_require_row) :=
  fn0 (k := 1) hK F S_require_row (FunD.bindsN F fun _ _ _ _ _ _ us hl => match us, hl with | [_], _ => rfl) fun cdv A outer s H E c Z =>
    (dss_one (ds_if (dt_not (t_tru Z (e_isi Z T.j_Row G.f_isinstance (e_var 0)))) (dss_one (s_raise0 Z T.r_InvalidRow)) dss_nil))
structure T_ghosts_of_entries (P : Program) (w : World) (K : PySem.W.Frag) (mg : Str → Option Value) (base : Heap) (cn : Cn) : Prop where
  u : True
theorem S_ghosts_of_entries : FnScope ["entries", "found", "number", "less", "place"] ["entries"] (defScope s_ghosts_of_entries) := ⟨rfl, rfl, rfl, by decide +kernel, rfl, by decide +kernel, by decide +kernel⟩
theorem R_ghosts_of_entries (hK : K = cn.K) (G : Gs mg) (T : T_ghosts_of_entries P w K mg base cn) (F : FunD K "ghosts_of_entries" "ghosts_of_entries" (defArgs s_ghosts_of_entries) (defBody s_ghosts_of_entries) (defScope s_ghosts_of_entries) [] [] f fd) : Dx.FnR P w K mg base (L2.CX P w) 2 f (spF cn m_ghosts_of_entries) :=
  fn0 (k := 1) hK F S_ghosts_of_entries (FunD.bindsN F fun _ _ _ _ _ _ us hl => match us, hl with | [_], _ => rfl) fun cdv A outer s H E c Z =>
    (dss_cons (ds_setO (g_name 1 Z) (do_lst da_nil))
    (dss_cons (ds_for Z.pass Z.calm (di_range2 (by rfl) G.f_range (da_cons de_int (da_cons (e_len Z G.f_len (e_var 0)) da_nil))) (dg_name (g_nm 2 Z.nd)) (dss_cons (ds_set (g_name 3 Z) (e_sum Z G.f_sum (de_frz (do_lc (own := [("place", 4)]) Z.calm Z.nd (di_range2 (by rfl) G.f_range (da_cons de_int (da_cons (e_var 2) da_nil))) (blkOk_by (N := ["entries", "found", "number", "less", "place"]) (sc := defScope s_ghosts_of_entries) (own := [("place", 4)]) (by decide +kernel)) (by decide) (fun s H C cl fp => (dg_name (g_nm 4 Z.nd))) (fun s H C cl fp c1 h1 => dts_nil) (fun s H C cl fp c1 h1 => (e_mul (Ctx.blk Z h1 s H _ _ fp) (de_ownIx (i := 1) (Ctx.blk Z h1 s H _ _ fp).hK (pv 1) (e_sub (e_var 4) de_int) (by intro _ _; rfl)) (e_ix (Ctx.blk Z h1 s H _ _ fp) (e_var 0) (e_sub (e_var 2) (e_var 4)))))))))
    (dss_one (ds_expr (de_app (i := 1) (pv 1) (e_sub (e_mul Z (e_var 2) (e_ix Z (e_var 0) (e_var 2))) (e_var 3)))))))
    (dss_one (ds_retV (i := 1) (pv 1)))))
structure T_Row_degree (P : Program) (w : World) (K : PySem.W.Frag) (mg : Str → Option Value) (base : Heap) (cn : Cn) : Prop where
  a_own_tops : AttrOk cn "own_tops" ta_own_tops
theorem S_Row_degree : FnScope ["self"] ["self"] (defScope s_Row_degree) := ⟨rfl, rfl, rfl, by decide +kernel, rfl, by decide +kernel, by decide +kernel⟩
theorem R_Row_degree (hK : K = cn.K) (G : Gs mg) (T : T_Row_degree P w K mg base cn) (F : FunD K "degree" "Row.degree" (defArgs s_Row_degree) (defBody s_Row_degree) (defScope s_Row_degree) [] [] f fd) : Dx.FnR P w K mg base (L2.CX P w) 2 f (spF cn m_Row_degree) :=
  fn0 (k := 1) hK F S_Row_degree (FunD.bindsN F fun _ _ _ _ _ _ us hl => match us, hl with | [_], _ => rfl) fun cdv A outer s H E c Z =>
    (dss_one (ds_ret (e_sub (e_len Z G.f_len (e_attr Z T.a_own_tops (e_var 0))) de_int)))
structure T_Row_is_whole (P : Program) (w : World) (K : PySem.W.Frag) (mg : Str → Option Value) (base : Heap) (cn : Cn) : Prop where
  a_own_bottom : AttrOk cn "own_bottom" ta_own_bottom
  a_own_modulus : AttrOk cn "own_modulus" ta_own_modulus
theorem S_Row_is_whole : FnScope ["self"] ["self"] (defScope s_Row_is_whole) := ⟨rfl, rfl, rfl, by decide +kernel, rfl, by decide +kernel, by decide +kernel⟩
theorem R_Row_is_whole (hK : K = cn.K) (G : Gs mg) (T : T_Row_is_whole P w K mg base cn) (F : FunD K "is_whole" "Row.is_whole" (defArgs s_Row_is_whole) (defBody s_Row_is_whole) (defScope s_Row_is_whole) [] [] f fd) : Dx.FnR P w K mg base (L2.CX P w) 2 f (spF cn m_Row_is_whole) :=
  fn0 (k := 1) hK F S_Row_is_whole (FunD.bindsN F fun _ _ _ _ _ _ us hl => match us, hl with | [_], _ => rfl) fun cdv A outer s H E c Z =>
    (dss_one (ds_ret (de_and (e_eqX Z (e_attr Z T.a_own_modulus (e_var 0)) de_int) (de_one (e_eqX Z (e_attr Z T.a_own_bottom (e_var 0)) de_int)))))
structure T_Witt_degree (P : Program) (w : World) (K : PySem.W.Frag) (mg : Str → Option Value) (base : Heap) (cn : Cn) : Prop where
  a_own_coordinates : AttrOk cn "own_coordinates" ta_own_coordinates
theorem S_Witt_degree : FnScope ["self"] ["self"] (defScope s_Witt_degree) := ⟨rfl, rfl, rfl, by decide +kernel, rfl, by decide +kernel, by decide +kernel⟩
theorem R_Witt_degree (hK : K = cn.K) (G : Gs mg) (T : T_Witt_degree P w K mg base cn) (F : FunD K "degree" "Witt.degree" (defArgs s_Witt_degree) (defBody s_Witt_degree) (defScope s_Witt_degree) [] [] f fd) : Dx.FnR P w K mg base (L2.CX P w) 2 f (spF cn m_Witt_degree) :=
  fn0 (k := 1) hK F S_Witt_degree (FunD.bindsN F fun _ _ _ _ _ _ us hl => match us, hl with | [_], _ => rfl) fun cdv A outer s H E c Z =>
    (dss_one (ds_ret (e_len Z G.f_len (e_attr Z T.a_own_coordinates (e_var 0)))))
structure T_Witt_of_row (P : Program) (w : World) (K : PySem.W.Frag) (mg : Str → Option Value) (base : Heap) (cn : Cn) : Prop where
  d_coordinates_in : Cal P w K mg base cn 6 "coordinates_in" m_coordinates_in
  d_ghosts_of_entries : Cal P w K mg base cn 2 "ghosts_of_entries" m_ghosts_of_entries
  d_require_row : Cal P w K mg base cn 2 "require_row" m_require_row
  k_Told : Mkr P w K mg base cn 2 "Told" 4 i_Told
  mk_Witt_0 : MkrC P w K mg base cn 12 1 [] 5 i_Witt
  p_degree : PrpOk P w mg base cn 2 "degree" tp_degree
  p_is_whole : PrpOk P w mg base cn 2 "is_whole" tp_is_whole
  r_InvalidOperation : Xe0 K mg cn "InvalidOperation" 12
  a_own_tops : AttrOk cn "own_tops" ta_own_tops
theorem S_Witt_of_row : FnScope ["cls", "row"] ["cls", "row"] (defScope s_Witt_of_row) := ⟨rfl, rfl, rfl, by decide +kernel, rfl, by decide +kernel, by decide +kernel⟩
theorem R_Witt_of_row (hK : K = cn.K) (G : Gs mg) (T : T_Witt_of_row P w K mg base cn) (F : FunD K "of_row" "Witt.of_row" (defArgs s_Witt_of_row) (defBody s_Witt_of_row) (defScope s_Witt_of_row) [] [] f fd) : Dx.FnR P w K mg base (L2.CX P w) 14 f (spF cn m_Witt_of_row) :=
  fn0 (k := 13) hK F S_Witt_of_row (FunD.bindsN F fun _ _ _ _ _ _ us hl => match us, hl with | [_, _], _ => rfl) fun cdv A outer s H E c Z =>
    (dss_cons (ds_expr (e_call Z T.d_require_row (by decide) (da_cons (e_var 1) da_nil)))
    (dss_cons (ds_if (dt_w (dw_or (dt_not (t_tru Z (e_prp Z (T.p_is_whole) (by decide) (e_var 1)))) (dw_or (t_lt (e_prp Z (T.p_degree) (by decide) (e_var 1)) de_int) (dw_or1 (t_ne Z (e_ix Z (e_attr Z T.a_own_tops (e_var 1)) de_int) de_int))))) (dss_one (s_raise0 Z T.r_InvalidOperation)) dss_nil)
    (dss_one (ds_ret (e_makeC (i := 0) Z T.mk_Witt_0 (by decide) (pv 0) (da_cons (e_make Z T.k_Told (by decide) (da_cons (e_call Z T.d_coordinates_in (by decide) (da_cons (e_call Z T.d_ghosts_of_entries (by decide) (da_cons (e_attr Z T.a_own_tops (e_var 1)) da_nil)) da_nil)) da_nil)) da_nil) dk_nil)))))
structure T_Witt___eq__ (P : Program) (w : World) (K : PySem.W.Frag) (mg : Str → Option Value) (base : Heap) (cn : Cn) : Prop where
  j_Witt : ∃ C, mg "Witt" = some (.ref C) ∧ IsiOk cn C tj_Witt
  a_own_coordinates : AttrOk cn "own_coordinates" ta_own_coordinates
theorem S_Witt___eq__ : FnScope ["self", "other"] ["self", "other"] (defScope s_Witt___eq__) := ⟨rfl, rfl, rfl, by decide +kernel, rfl, by decide +kernel, by decide +kernel⟩
theorem R_Witt___eq__ (hK : K = cn.K) (G : Gs mg) (T : T_Witt___eq__ P w K mg base cn) (F : FunD K "__eq__" "Witt.__eq__" (defArgs s_Witt___eq__) (defBody s_Witt___eq__) (defScope s_Witt___eq__) [] [] f fd) : Dx.FnR P w K mg base (L2.CX P w) 2 f (spF cn m_Witt___eq__) :=
  fn0 (k := 1) hK F S_Witt___eq__ (FunD.bindsN F fun _ _ _ _ _ _ us hl => match us, hl with | [_, _], _ => rfl) fun cdv A outer s H E c Z =>
    (dss_one (ds_ret (de_and (e_isi Z T.j_Witt G.f_isinstance (e_var 1)) (de_one (e_eqX Z (e_attr Z T.a_own_coordinates (e_var 0)) (e_attr Z T.a_own_coordinates (e_var 1)))))))
structure T__law_made_right (P : Program) (w : World) (K : PySem.W.Frag) (mg : Str → Option Value) (base : Heap) (cn : Cn) : Prop where
  c0_Witt_of_ghosts : CmOk P w K mg base cn 14 "Witt" "of_ghosts" 5 1 [] m_Witt_of_ghosts
  c0_Witt_of_row : CmOk P w K mg base cn 14 "Witt" "of_row" 5 1 [] m_Witt_of_row
  c0_Witt_single : CmOk P w K mg base cn 14 "Witt" "single" 5 2 [] m_Witt_single
  d__law_pick : Cal P w K mg base cn 4 "_law_pick" m__law_pick
  d_artin_row : Cal P w K mg base cn 18 "artin_row" m_artin_row
  d_counts_of : Cal P w K mg base cn 12 "counts_of" m_counts_of
  d_ghost_fault : Cal P w K mg base cn 10 "ghost_fault" m_ghost_fault
  d_ghost_row : Cal P w K mg base cn 18 "ghost_row" m_ghost_row
  K_Ratio : Mkr P w K mg base cn 8 "Ratio" 1 (dfl i_Ratio (.int (1)))
  K_Row : Mkr P w K mg base cn 12 "Row" 3 (dfl i_Row (.int (0)))
  w_Row : MkrK P w K mg base cn 12 "Row" 1 ["modulus"] 3 i_Row
  k_Ratio : Mkr P w K mg base cn 8 "Ratio" 1 i_Ratio
  k_Witt : Mkr P w K mg base cn 12 "Witt" 5 i_Witt
  oeq : OeqOk P w mg base cn 2 teqT tkT
  t__law_met : ThkOk P w K mg base cn 2 "_law_met" m__law_met
theorem S__law_made_right : FnScope ["_law_dice_here", "_law_bad", "_law_none", "_law_row", "_law_wrong", "_law_prime", "_law_many", "_law_number", "_law_told", "_law_due"] ["_law_dice_here"] (defScope s__law_made_right) := ⟨rfl, rfl, rfl, by decide +kernel, rfl, by decide +kernel, by decide +kernel⟩
theorem R__law_made_right (hK : K = cn.K) (G : Gs mg) (T : T__law_made_right P w K mg base cn) (TB : TabAt base K mg cn f ("_law_made_right" ++ ".<locals>." ++ "<lambda>")) (F : FunD K "_law_made_right" "_law_made_right" (defArgs s__law_made_right) (defBody s__law_made_right) (defScope s__law_made_right) [] [] f fd) : Dx.FnR P w K mg base (L2.CX P w) 22 f (spF cn m__law_made_right) :=
  fn0C (k := 21) hK F TB.c S__law_made_right (FunD.bindsN F fun _ _ _ _ _ _ us hl => match us, hl with | [_], _ => rfl) fun A outer s H E c Z =>
    (dss_cons (ds_set (g_name 1 Z) (e_call Z T.d__law_pick (by decide) (da_cons (e_var 0) (da_cons (de_frz (do_lst (da_cons de_non (da_cons (de_tup da_nil) (da_cons (de_frz (do_lst (da_cons de_int (da_cons de_int da_nil)))) (da_cons (de_tup (da_cons de_int (da_cons de_non da_nil))) (da_cons (de_tup (da_cons de_bl da_nil)) (da_cons de_str (da_cons (e_mul Z (de_tup (da_cons de_int da_nil)) de_int) (da_cons (de_tup (da_cons (e_pow de_int de_int) da_nil)) (da_cons de_int (da_cons (de_tup (da_cons (e_make Z T.K_Ratio (by decide) (da_cons de_int da_nil)) da_nil)) da_nil)))))))))))) da_nil))))
    (dss_cons (ds_set (g_name 2 Z) (e_call Z T.d__law_pick (by decide) (da_cons (e_var 0) (da_cons (de_frz (do_lst (da_cons (de_tup (da_cons de_int (da_cons de_int da_nil))) (da_cons (de_tup (da_cons de_int (da_cons de_int da_nil))) (da_cons (de_tup (da_cons de_int (da_cons de_int (da_cons de_int da_nil)))) (da_cons (de_tup (da_cons de_int (da_cons de_int (da_cons de_int da_nil)))) da_nil)))))) da_nil))))
    (dss_cons (ds_set (g_name 3 Z) (e_call Z T.d__law_pick (by decide) (da_cons (e_var 0) (da_cons (de_frz (do_lst (da_cons de_non (da_cons (de_tup (da_cons de_int (da_cons de_int da_nil))) (da_cons de_str (da_cons de_int (da_cons (de_frz (do_lst (da_cons de_int (da_cons de_int da_nil)))) (da_cons (e_make Z T.k_Witt (by decide) (da_cons (de_tup (da_cons de_int (da_cons de_int da_nil))) da_nil)) da_nil)))))))) da_nil))))
    (dss_cons (ds_set (g_name 4 Z) (e_call Z T.d__law_pick (by decide) (da_cons (e_var 0) (da_cons (de_frz (do_lst (da_cons (e_make Z T.K_Row (by decide) (da_cons (de_tup (da_cons de_int da_nil)) da_nil)) (da_cons (e_make Z T.K_Row (by decide) (da_cons (de_tup (da_cons de_int (da_cons de_int da_nil))) da_nil)) (da_cons (e_make Z T.K_Row (by decide) (da_cons (de_tup (da_cons de_int (da_cons de_int da_nil))) da_nil)) (da_cons (e_make Z T.K_Row (by decide) (da_cons (de_tup (da_cons de_int (da_cons (e_make Z T.k_Ratio (by decide) (da_cons de_int (da_cons de_int da_nil))) da_nil))) da_nil)) (da_cons (e_makeK Z T.w_Row (by decide) (da_cons (de_tup (da_cons de_int (da_cons de_int da_nil))) da_nil) (dk_cons de_int dk_nil)) (da_cons (e_make Z T.K_Row (by decide) (da_cons (de_tup (da_cons (e_neg de_int) (da_cons de_int da_nil))) da_nil)) da_nil)))))))) da_nil))))
    (dss_cons (ds_set (g_name 5 Z) (e_call Z T.d__law_pick (by decide) (da_cons (e_var 0) (da_cons (de_frz (do_lst (da_cons de_non (da_cons de_int (da_cons de_int (da_cons de_int (da_cons (e_neg de_int) (da_cons de_int (da_cons de_bl (da_cons de_str (da_cons (e_pow de_int de_int) da_nil))))))))))) da_nil))))
    (dss_cons (ds_set (g_name 6 Z) (e_call Z T.d__law_pick (by decide) (da_cons (e_var 0) (da_cons (de_frz (do_lst (da_cons de_int (da_cons de_int (da_cons (e_neg de_int) (da_cons de_non (da_cons de_bl (da_cons de_str (da_cons (e_pow de_int de_int) da_nil))))))))) da_nil))))
    (dss_cons (ds_set (g_name 7 Z) (e_call Z T.d__law_pick (by decide) (da_cons (e_var 0) (da_cons (de_frz (do_lst (da_cons de_non (da_cons de_bl (da_cons de_str (da_cons (e_pow de_int de_int) (da_cons (de_tup (da_cons de_int da_nil)) da_nil))))))) da_nil))))
    (dss_cons (ds_setO (g_name 8 Z) (do_lst (da_cons (e_thkJ (k := 19) Z T.t__law_met (by decide) TB.tb rfl TB.q (fun A outer s H E f c' c1 Z1 => (e_call Z1 T.d_ghost_fault (by decide) (da_cons (e_var 1) da_nil))) (show LamX.lamSB (defScope s__law_made_right) _ = true by decide +kernel)) da_nil)))
    (dss_cons (ds_expr (de_app (i := 8) (pv 8) (e_thkJ (k := 19) Z T.t__law_met (by decide) TB.tb rfl TB.q (fun A outer s H E f c' c1 Z1 => (e_call Z1 T.d_ghost_row (by decide) (da_cons (e_var 1) da_nil))) (show LamX.lamSB (defScope s__law_made_right) _ = true by decide +kernel))))
    (dss_cons (ds_expr (de_app (i := 8) (pv 8) (e_thkJ (k := 19) Z T.t__law_met (by decide) TB.tb rfl TB.q (fun A outer s H E f c' c1 Z1 => (e_call Z1 T.d_counts_of (by decide) (da_cons (e_var 1) da_nil))) (show LamX.lamSB (defScope s__law_made_right) _ = true by decide +kernel))))
    (dss_cons (ds_expr (de_app (i := 8) (pv 8) (e_thkJ (k := 19) Z T.t__law_met (by decide) TB.tb rfl TB.q (fun A outer s H E f c' c1 Z1 => (e_call Z1 T.d_counts_of (by decide) (da_cons (e_var 2) da_nil))) (show LamX.lamSB (defScope s__law_made_right) _ = true by decide +kernel))))
    (dss_cons (ds_expr (de_app (i := 8) (pv 8) (e_thkJ (k := 19) Z T.t__law_met (by decide) TB.tb rfl TB.q (fun A outer s H E f c' c1 Z1 => (e_make Z1 T.k_Witt (by decide) (da_cons (e_var 1) da_nil))) (show LamX.lamSB (defScope s__law_made_right) _ = true by decide +kernel))))
    (dss_cons (ds_expr (de_app (i := 8) (pv 8) (e_thkJ (k := 19) Z T.t__law_met (by decide) TB.tb rfl TB.q (fun A outer s H E f c' c1 Z1 => (e_cm Z1 T.c0_Witt_of_ghosts (by decide) (da_cons (e_var 1) da_nil) dk_nil)) (show LamX.lamSB (defScope s__law_made_right) _ = true by decide +kernel))))
    (dss_cons (ds_expr (de_app (i := 8) (pv 8) (e_thkJ (k := 19) Z T.t__law_met (by decide) TB.tb rfl TB.q (fun A outer s H E f c' c1 Z1 => (e_cm Z1 T.c0_Witt_of_ghosts (by decide) (da_cons (e_var 2) da_nil) dk_nil)) (show LamX.lamSB (defScope s__law_made_right) _ = true by decide +kernel))))
    (dss_cons (ds_expr (de_app (i := 8) (pv 8) (e_thkJ (k := 19) Z T.t__law_met (by decide) TB.tb rfl TB.q (fun A outer s H E f c' c1 Z1 => (e_cm Z1 T.c0_Witt_of_row (by decide) (da_cons (e_var 3) da_nil) dk_nil)) (show LamX.lamSB (defScope s__law_made_right) _ = true by decide +kernel))))
    (dss_cons (ds_expr (de_app (i := 8) (pv 8) (e_thkJ (k := 19) Z T.t__law_met (by decide) TB.tb rfl TB.q (fun A outer s H E f c' c1 Z1 => (e_cm Z1 T.c0_Witt_of_row (by decide) (da_cons (e_var 4) da_nil) dk_nil)) (show LamX.lamSB (defScope s__law_made_right) _ = true by decide +kernel))))
    (dss_cons (ds_expr (de_app (i := 8) (pv 8) (e_thkJ (k := 19) Z T.t__law_met (by decide) TB.tb rfl TB.q (fun A outer s H E f c' c1 Z1 => (e_cm Z1 T.c0_Witt_single (by decide) (da_cons (e_var 7) (da_cons (e_var 6) da_nil)) dk_nil)) (show LamX.lamSB (defScope s__law_made_right) _ = true by decide +kernel))))
    (dss_cons (ds_expr (de_app (i := 8) (pv 8) (e_thkJ (k := 19) Z T.t__law_met (by decide) TB.tb rfl TB.q (fun A outer s H E f c' c1 Z1 => (e_cm Z1 T.c0_Witt_single (by decide) (da_cons de_int (da_cons (e_var 6) da_nil)) dk_nil)) (show LamX.lamSB (defScope s__law_made_right) _ = true by decide +kernel))))
    (dss_cons (ds_expr (de_app (i := 8) (pv 8) (e_thkJ (k := 19) Z T.t__law_met (by decide) TB.tb rfl TB.q (fun A outer s H E f c' c1 Z1 => (e_call Z1 T.d_artin_row (by decide) (da_cons (e_var 5) (da_cons (e_var 6) da_nil)))) (show LamX.lamSB (defScope s__law_made_right) _ = true by decide +kernel))))
    (dss_cons (ds_expr (de_app (i := 8) (pv 8) (e_thkJ (k := 19) Z T.t__law_met (by decide) TB.tb rfl TB.q (fun A outer s H E f c' c1 Z1 => (e_call Z1 T.d_artin_row (by decide) (da_cons de_int (da_cons (e_var 6) da_nil)))) (show LamX.lamSB (defScope s__law_made_right) _ = true by decide +kernel))))
    (dss_cons (ds_set (g_name 9 Z) (de_frz (do_lst (da_cons de_str (da_cons de_str (da_cons de_str (da_cons de_str (da_cons de_str (da_cons de_str (da_cons de_str (da_cons de_str (da_cons de_str da_nil))))))))))))
    (dss_one (ds_ret (e_eqY Z T.oeq (by decide) (e_var 8) (e_add Z (e_var 9) (de_frz (do_lst (da_cons (e_add Z de_str (e_reprX Z G.f_repr (e_var 7))) (da_cons (e_add Z de_str (e_reprX Z G.f_repr (e_var 6))) (da_cons de_str (da_cons (e_add Z de_str (e_reprX Z G.f_repr (e_var 6))) da_nil)))))))))))))))))))))))))))))))
structure T_pair_of (P : Program) (w : World) (K : PySem.W.Frag) (mg : Str → Option Value) (base : Heap) (cn : Cn) : Prop where
  d_is_short : Cal P w K mg base cn 4 "is_short" m_is_short
  j_Ratio : ∃ C, mg "Ratio" = some (.ref C) ∧ IsiOk cn C tj_Ratio
  r_InvalidRatio : Xe0 K mg cn "InvalidRatio" 7
  a_own_bottom : AttrOk cn "own_bottom" ta_own_bottom
  a_own_top : AttrOk cn "own_top" ta_own_top
theorem S_pair_of : FnScope ["value"] ["value"] (defScope s_pair_of) := ⟨rfl, rfl, rfl, by decide +kernel, rfl, by decide +kernel, by decide +kernel⟩
theorem R_pair_of (hK : K = cn.K) (G : Gs mg) (T : T_pair_of P w K mg base cn) (F : FunD K "pair_of" "pair_of" (defArgs s_pair_of) (defBody s_pair_of) (defScope s_pair_of) [] [] f fd) : Dx.FnR P w K mg base (L2.CX P w) 6 f (spF cn m_pair_of) :=
  fn0 (k := 5) hK F S_pair_of (FunD.bindsN F fun _ _ _ _ _ _ us hl => match us, hl with | [_], _ => rfl) fun cdv A outer s H E c Z =>
    (dss_cons (ds_if (t_tru Z (e_isi Z T.j_Ratio G.f_isinstance (e_var 0))) (dss_one (ds_ret (de_tup (da_cons (e_attr Z T.a_own_top (e_var 0)) (da_cons (e_attr Z T.a_own_bottom (e_var 0)) da_nil))))) dss_nil)
    (dss_cons (ds_if (dt_not (t_tru Z (e_call Z T.d_is_short (by decide) (da_cons (e_var 0) da_nil)))) (dss_one (s_raise0 Z T.r_InvalidRatio)) dss_nil)
    (dss_one (ds_ret (de_tup (da_cons (e_var 0) (da_cons de_int da_nil)))))))
structure T_Ratio_plus (P : Program) (w : World) (K : PySem.W.Frag) (mg : Str → Option Value) (base : Heap) (cn : Cn) : Prop where
  d_pair_of : Cal P w K mg base cn 6 "pair_of" m_pair_of
  d_ratio_of : Cal P w K mg base cn 10 "ratio_of" m_ratio_of
  a_own_bottom : AttrOk cn "own_bottom" ta_own_bottom
  a_own_top : AttrOk cn "own_top" ta_own_top
theorem S_Ratio_plus : FnScope ["self", "other", "top", "bottom"] ["self", "other"] (defScope s_Ratio_plus) := ⟨rfl, rfl, rfl, by decide +kernel, rfl, by decide +kernel, by decide +kernel⟩
theorem R_Ratio_plus (hK : K = cn.K) (G : Gs mg) (T : T_Ratio_plus P w K mg base cn) (F : FunD K "plus" "Ratio.plus" (defArgs s_Ratio_plus) (defBody s_Ratio_plus) (defScope s_Ratio_plus) [] [] f fd) : Dx.FnR P w K mg base (L2.CX P w) 12 f (spF cn m_Ratio_plus) :=
  fn0 (k := 11) hK F S_Ratio_plus (FunD.bindsN F fun _ _ _ _ _ _ us hl => match us, hl with | [_, _], _ => rfl) fun cdv A outer s H E c Z =>
    (dss_cons (ds_asg (e_call Z T.d_pair_of (by decide) (da_cons (e_var 1) da_nil)) (dg_tup Z.calm Z.hK (dgs_cons (dg_name (g_nm 2 Z.nd)) (dgs_cons (dg_name (g_nm 3 Z.nd)) dgs_nil))))
    (dss_one (ds_ret (e_call Z T.d_ratio_of (by decide) (da_cons (e_add Z (e_mul Z (e_attr Z T.a_own_top (e_var 0)) (e_var 3)) (e_mul Z (e_var 2) (e_attr Z T.a_own_bottom (e_var 0)))) (da_cons (e_mul Z (e_attr Z T.a_own_bottom (e_var 0)) (e_var 3)) da_nil))))))
structure T_Ratio_minus (P : Program) (w : World) (K : PySem.W.Frag) (mg : Str → Option Value) (base : Heap) (cn : Cn) : Prop where
  d_pair_of : Cal P w K mg base cn 6 "pair_of" m_pair_of
  d_ratio_of : Cal P w K mg base cn 10 "ratio_of" m_ratio_of
  a_own_bottom : AttrOk cn "own_bottom" ta_own_bottom
  a_own_top : AttrOk cn "own_top" ta_own_top
theorem S_Ratio_minus : FnScope ["self", "other", "top", "bottom"] ["self", "other"] (defScope s_Ratio_minus) := ⟨rfl, rfl, rfl, by decide +kernel, rfl, by decide +kernel, by decide +kernel⟩
theorem R_Ratio_minus (hK : K = cn.K) (G : Gs mg) (T : T_Ratio_minus P w K mg base cn) (F : FunD K "minus" "Ratio.minus" (defArgs s_Ratio_minus) (defBody s_Ratio_minus) (defScope s_Ratio_minus) [] [] f fd) : Dx.FnR P w K mg base (L2.CX P w) 12 f (spF cn m_Ratio_minus) :=
  fn0 (k := 11) hK F S_Ratio_minus (FunD.bindsN F fun _ _ _ _ _ _ us hl => match us, hl with | [_, _], _ => rfl) fun cdv A outer s H E c Z =>
    (dss_cons (ds_asg (e_call Z T.d_pair_of (by decide) (da_cons (e_var 1) da_nil)) (dg_tup Z.calm Z.hK (dgs_cons (dg_name (g_nm 2 Z.nd)) (dgs_cons (dg_name (g_nm 3 Z.nd)) dgs_nil))))
    (dss_one (ds_ret (e_call Z T.d_ratio_of (by decide) (da_cons (e_sub (e_mul Z (e_attr Z T.a_own_top (e_var 0)) (e_var 3)) (e_mul Z (e_var 2) (e_attr Z T.a_own_bottom (e_var 0)))) (da_cons (e_mul Z (e_attr Z T.a_own_bottom (e_var 0)) (e_var 3)) da_nil))))))
structure T_Ratio_times (P : Program) (w : World) (K : PySem.W.Frag) (mg : Str → Option Value) (base : Heap) (cn : Cn) : Prop where
  d_pair_of : Cal P w K mg base cn 6 "pair_of" m_pair_of
  d_ratio_of : Cal P w K mg base cn 10 "ratio_of" m_ratio_of
  a_own_bottom : AttrOk cn "own_bottom" ta_own_bottom
  a_own_top : AttrOk cn "own_top" ta_own_top
theorem S_Ratio_times : FnScope ["self", "other", "top", "bottom"] ["self", "other"] (defScope s_Ratio_times) := ⟨rfl, rfl, rfl, by decide +kernel, rfl, by decide +kernel, by decide +kernel⟩
theorem R_Ratio_times (hK : K = cn.K) (G : Gs mg) (T : T_Ratio_times P w K mg base cn) (F : FunD K "times" "Ratio.times" (defArgs s_Ratio_times) (defBody s_Ratio_times) (defScope s_Ratio_times) [] [] f fd) : Dx.FnR P w K mg base (L2.CX P w) 12 f (spF cn m_Ratio_times) :=
  fn0 (k := 11) hK F S_Ratio_times (FunD.bindsN F fun _ _ _ _ _ _ us hl => match us, hl with | [_, _], _ => rfl) fun cdv A outer s H E c Z =>
    (dss_cons (ds_asg (e_call Z T.d_pair_of (by decide) (da_cons (e_var 1) da_nil)) (dg_tup Z.calm Z.hK (dgs_cons (dg_name (g_nm 2 Z.nd)) (dgs_cons (dg_name (g_nm 3 Z.nd)) dgs_nil))))
    (dss_one (ds_ret (e_call Z T.d_ratio_of (by decide) (da_cons (e_mul Z (e_attr Z T.a_own_top (e_var 0)) (e_var 2)) (da_cons (e_mul Z (e_attr Z T.a_own_bottom (e_var 0)) (e_var 3)) da_nil))))))
structure T_line_sum (P : Program) (w : World) (K : PySem.W.Frag) (mg : Str → Option Value) (base : Heap) (cn : Cn) : Prop where
  d_line_of : Cal P w K mg base cn 2 "line_of" m_line_of
theorem S_line_sum : FnScope ["one", "other", "factor", "modulus", "left", "first", "right", "last", "tops", "here", "there"] ["one", "other", "factor", "modulus"] (defScope s_line_sum) := ⟨rfl, rfl, rfl, by decide +kernel, rfl, by decide +kernel, by decide +kernel⟩
theorem R_line_sum (hK : K = cn.K) (G : Gs mg) (T : T_line_sum P w K mg base cn) (F : FunD K "line_sum" "line_sum" (defArgs s_line_sum) (defBody s_line_sum) (defScope s_line_sum) [] [] f fd) : Dx.FnR P w K mg base (L2.CX P w) 4 f (spF cn m_line_sum) :=
  fn0 (k := 3) hK F S_line_sum (FunD.bindsN F fun _ _ _ _ _ _ us hl => match us, hl with | [_, _, _, _], _ => rfl) fun cdv A outer s H E c Z =>
    (dss_cons (ds_asg (de_tup (da_cons (e_var 0) (da_cons (e_var 1) da_nil))) (dg_tup Z.calm Z.hK (dgs_cons (dg_tup Z.calm Z.hK (dgs_cons (dg_name (g_nm 4 Z.nd)) (dgs_cons (dg_name (g_nm 5 Z.nd)) dgs_nil))) (dgs_cons (dg_tup Z.calm Z.hK (dgs_cons (dg_name (g_nm 6 Z.nd)) (dgs_cons (dg_name (g_nm 7 Z.nd)) dgs_nil))) dgs_nil))))
    (dss_cons (ds_setLc (i := 8) (own := [("here", 9), ("there", 10)]) Z.calm Z.nd rfl rfl (sw_true rfl rfl rfl (by decide +kernel)) (di_zip Z.hK (by rfl) G.f_zip (da_cons (e_var 4) (da_cons (e_var 6) da_nil))) (blkOk_by (N := ["one", "other", "factor", "modulus", "left", "first", "right", "last", "tops", "here", "there"]) (sc := defScope s_line_sum) (own := [("here", 9), ("there", 10)]) (by decide +kernel)) (by decide) (fun s H C cl fp => (dg_tup Z.calm Z.hK (dgs_cons (dg_name (g_nm 9 Z.nd)) (dgs_cons (dg_name (g_nm 10 Z.nd)) dgs_nil)))) (fun s H C cl fp c1 h1 => dts_nil) (fun s H C cl fp c1 h1 => (e_add (Ctx.blk Z h1 s H _ _ fp) (e_mul (Ctx.blk Z h1 s H _ _ fp) (e_var 9) (e_var 7)) (e_mul (Ctx.blk Z h1 s H _ _ fp) (e_mul (Ctx.blk Z h1 s H _ _ fp) (e_var 2) (e_var 10)) (e_var 5)))))
    (dss_one (ds_ret (e_call Z T.d_line_of (by decide) (da_cons (e_var 8) (da_cons (e_mul Z (e_var 5) (e_var 7)) (da_cons (e_var 3) da_nil))))))))
structure T_line_in (P : Program) (w : World) (K : PySem.W.Frag) (mg : Str → Option Value) (base : Heap) (cn : Cn) : Prop where
  a_own_bottom : AttrOk cn "own_bottom" ta_own_bottom
  a_own_tops : AttrOk cn "own_tops" ta_own_tops
theorem S_line_in : FnScope ["row"] ["row"] (defScope s_line_in) := ⟨rfl, rfl, rfl, by decide +kernel, rfl, by decide +kernel, by decide +kernel⟩
theorem R_line_in (hK : K = cn.K) (G : Gs mg) (T : T_line_in P w K mg base cn) (F : FunD K "line_in" "line_in" (defArgs s_line_in) (defBody s_line_in) (defScope s_line_in) [] [] f fd) : Dx.FnR P w K mg base (L2.CX P w) 2 f (spF cn m_line_in) :=
  fn0 (k := 1) hK F S_line_in (FunD.bindsN F fun _ _ _ _ _ _ us hl => match us, hl with | [_], _ => rfl) fun cdv A outer s H E c Z =>
    (dss_one (ds_ret (de_tup (da_cons (e_attr Z T.a_own_tops (e_var 0)) (da_cons (e_attr Z T.a_own_bottom (e_var 0)) da_nil)))))
structure T_require_like (P : Program) (w : World) (K : PySem.W.Frag) (mg : Str → Option Value) (base : Heap) (cn : Cn) : Prop where
  d_require_row : Cal P w K mg base cn 2 "require_row" m_require_row
  r_InvalidOperation : Xe0 K mg cn "InvalidOperation" 12
  a_own_modulus : AttrOk cn "own_modulus" ta_own_modulus
theorem S_require_like : FnScope ["one", "other"] ["one", "other"] (defScope s_require_like) := ⟨rfl, rfl, rfl, by decide +kernel, rfl, by decide +kernel, by decide +kernel⟩
theorem R_require_like (hK : K = cn.K) (G : Gs mg) (T : T_require_like P w K mg base cn) (F : FunD K "require_like" "require_like" (defArgs s_require_like) (defBody s_require_like) (defScope s_require_like) [] [] f fd) : Dx.FnR P w K mg base (L2.CX P w) 4 f (spF cn m_require_like) :=
  fn0 (k := 3) hK F S_require_like (FunD.bindsN F fun _ _ _ _ _ _ us hl => match us, hl with | [_, _], _ => rfl) fun cdv A outer s H E c Z =>
    (dss_cons (ds_expr (e_call Z T.d_require_row (by decide) (da_cons (e_var 1) da_nil)))
    (dss_one (ds_if (t_ne Z (e_attr Z T.a_own_modulus (e_var 0)) (e_attr Z T.a_own_modulus (e_var 1))) (dss_one (s_raise0 Z T.r_InvalidOperation)) dss_nil)))
structure T_Row_plus (P : Program) (w : World) (K : PySem.W.Frag) (mg : Str → Option Value) (base : Heap) (cn : Cn) : Prop where
  d_line_in : Cal P w K mg base cn 2 "line_in" m_line_in
  d_line_sum : Cal P w K mg base cn 4 "line_sum" m_line_sum
  d_require_like : Cal P w K mg base cn 4 "require_like" m_require_like
  d_row_with : Cal P w K mg base cn 14 "row_with" m_row_with
  D_row_with : Cal P w K mg base cn 14 "row_with" (dfl m_row_with (.bl true))
  a_own_modulus : AttrOk cn "own_modulus" ta_own_modulus
theorem S_Row_plus : FnScope ["self", "other"] ["self", "other"] (defScope s_Row_plus) := ⟨rfl, rfl, rfl, by decide +kernel, rfl, by decide +kernel, by decide +kernel⟩
theorem R_Row_plus (hK : K = cn.K) (G : Gs mg) (T : T_Row_plus P w K mg base cn) (F : FunD K "plus" "Row.plus" (defArgs s_Row_plus) (defBody s_Row_plus) (defScope s_Row_plus) [] [] f fd) : Dx.FnR P w K mg base (L2.CX P w) 16 f (spF cn m_Row_plus) :=
  fn0 (k := 15) hK F S_Row_plus (FunD.bindsN F fun _ _ _ _ _ _ us hl => match us, hl with | [_, _], _ => rfl) fun cdv A outer s H E c Z =>
    (dss_cons (ds_expr (e_call Z T.d_require_like (by decide) (da_cons (e_var 0) (da_cons (e_var 1) da_nil))))
    (dss_one (ds_ret (e_call Z T.D_row_with (by decide) (da_cons (e_call Z T.d_line_sum (by decide) (da_cons (e_call Z T.d_line_in (by decide) (da_cons (e_var 0) da_nil)) (da_cons (e_call Z T.d_line_in (by decide) (da_cons (e_var 1) da_nil)) (da_cons de_int (da_cons (e_attr Z T.a_own_modulus (e_var 0)) da_nil))))) (da_cons (e_attr Z T.a_own_modulus (e_var 0)) da_nil))))))
structure T_Row_minus (P : Program) (w : World) (K : PySem.W.Frag) (mg : Str → Option Value) (base : Heap) (cn : Cn) : Prop where
  d_line_in : Cal P w K mg base cn 2 "line_in" m_line_in
  d_line_sum : Cal P w K mg base cn 4 "line_sum" m_line_sum
  d_require_like : Cal P w K mg base cn 4 "require_like" m_require_like
  d_row_with : Cal P w K mg base cn 14 "row_with" m_row_with
  D_row_with : Cal P w K mg base cn 14 "row_with" (dfl m_row_with (.bl true))
  a_own_modulus : AttrOk cn "own_modulus" ta_own_modulus
theorem S_Row_minus : FnScope ["self", "other"] ["self", "other"] (defScope s_Row_minus) := ⟨rfl, rfl, rfl, by decide +kernel, rfl, by decide +kernel, by decide +kernel⟩
theorem R_Row_minus (hK : K = cn.K) (G : Gs mg) (T : T_Row_minus P w K mg base cn) (F : FunD K "minus" "Row.minus" (defArgs s_Row_minus) (defBody s_Row_minus) (defScope s_Row_minus) [] [] f fd) : Dx.FnR P w K mg base (L2.CX P w) 16 f (spF cn m_Row_minus) :=
  fn0 (k := 15) hK F S_Row_minus (FunD.bindsN F fun _ _ _ _ _ _ us hl => match us, hl with | [_, _], _ => rfl) fun cdv A outer s H E c Z =>
    (dss_cons (ds_expr (e_call Z T.d_require_like (by decide) (da_cons (e_var 0) (da_cons (e_var 1) da_nil))))
    (dss_one (ds_ret (e_call Z T.D_row_with (by decide) (da_cons (e_call Z T.d_line_sum (by decide) (da_cons (e_call Z T.d_line_in (by decide) (da_cons (e_var 0) da_nil)) (da_cons (e_call Z T.d_line_in (by decide) (da_cons (e_var 1) da_nil)) (da_cons (e_neg de_int) (da_cons (e_attr Z T.a_own_modulus (e_var 0)) da_nil))))) (da_cons (e_attr Z T.a_own_modulus (e_var 0)) da_nil))))))
structure T_line_times (P : Program) (w : World) (K : PySem.W.Frag) (mg : Str → Option Value) (base : Heap) (cn : Cn) : Prop where
  d_line_of : Cal P w K mg base cn 2 "line_of" m_line_of
theorem S_line_times : FnScope ["one", "other", "modulus", "left", "first", "right", "last", "size", "tops", "at", "entry", "place"] ["one", "other", "modulus"] (defScope s_line_times) := ⟨rfl, rfl, rfl, by decide +kernel, rfl, by decide +kernel, by decide +kernel⟩
theorem R_line_times (hK : K = cn.K) (G : Gs mg) (T : T_line_times P w K mg base cn) (F : FunD K "line_times" "line_times" (defArgs s_line_times) (defBody s_line_times) (defScope s_line_times) [] [] f fd) : Dx.FnR P w K mg base (L2.CX P w) 4 f (spF cn m_line_times) :=
  fn0 (k := 3) hK F S_line_times (FunD.bindsN F fun _ _ _ _ _ _ us hl => match us, hl with | [_, _, _], _ => rfl) fun cdv A outer s H E c Z =>
    (dss_cons (ds_asg (de_tup (da_cons (e_var 0) (da_cons (e_var 1) da_nil))) (dg_tup Z.calm Z.hK (dgs_cons (dg_tup Z.calm Z.hK (dgs_cons (dg_name (g_nm 3 Z.nd)) (dgs_cons (dg_name (g_nm 4 Z.nd)) dgs_nil))) (dgs_cons (dg_tup Z.calm Z.hK (dgs_cons (dg_name (g_nm 5 Z.nd)) (dgs_cons (dg_name (g_nm 6 Z.nd)) dgs_nil))) dgs_nil))))
    (dss_cons (ds_set (g_name 7 Z) (e_min Z G.f_min (e_len Z G.f_len (e_var 3)) (e_len Z G.f_len (e_var 5))))
    (dss_cons (ds_setO (g_name 8 Z) (do_rep (de_frz (do_lst (da_cons de_int da_nil))) (e_var 7)))
    (dss_cons (ds_for Z.pass Z.calm (di_range1 (by rfl) G.f_range (da_cons (e_var 7) da_nil)) (dg_name (g_nm 9 Z.nd)) (dss_cons (ds_set (g_name 10 Z) (e_ix Z (e_var 3) (e_var 9)))
    (dss_one (ds_if (t_ne Z (e_var 10) de_int) (dss_one (ds_for Z.pass Z.calm (di_range1 (by rfl) G.f_range (da_cons (e_sub (e_var 7) (e_var 9)) da_nil)) (dg_name (g_nm 11 Z.nd)) (dss_one (ds_ownAug (i := 8) Z.hK (pv 8) (e_add Z (e_var 9) (e_var 11)) (e_mul Z (e_var 10) (e_ix Z (e_var 5) (e_var 11))) ip_add ok_i2)))) dss_nil))))
    (dss_one (ds_ret (e_call Z T.d_line_of (by decide) (da_cons (e_var 8) (da_cons (e_mul Z (e_var 4) (e_var 6)) (da_cons (e_var 2) da_nil))))))))))
structure T_Row_times (P : Program) (w : World) (K : PySem.W.Frag) (mg : Str → Option Value) (base : Heap) (cn : Cn) : Prop where
  d_line_in : Cal P w K mg base cn 2 "line_in" m_line_in
  d_line_times : Cal P w K mg base cn 4 "line_times" m_line_times
  d_require_like : Cal P w K mg base cn 4 "require_like" m_require_like
  d_row_with : Cal P w K mg base cn 14 "row_with" m_row_with
  D_row_with : Cal P w K mg base cn 14 "row_with" (dfl m_row_with (.bl true))
  a_own_modulus : AttrOk cn "own_modulus" ta_own_modulus
theorem S_Row_times : FnScope ["self", "other"] ["self", "other"] (defScope s_Row_times) := ⟨rfl, rfl, rfl, by decide +kernel, rfl, by decide +kernel, by decide +kernel⟩
theorem R_Row_times (hK : K = cn.K) (G : Gs mg) (T : T_Row_times P w K mg base cn) (F : FunD K "times" "Row.times" (defArgs s_Row_times) (defBody s_Row_times) (defScope s_Row_times) [] [] f fd) : Dx.FnR P w K mg base (L2.CX P w) 16 f (spF cn m_Row_times) :=
  fn0 (k := 15) hK F S_Row_times (FunD.bindsN F fun _ _ _ _ _ _ us hl => match us, hl with | [_, _], _ => rfl) fun cdv A outer s H E c Z =>
    (dss_cons (ds_expr (e_call Z T.d_require_like (by decide) (da_cons (e_var 0) (da_cons (e_var 1) da_nil))))
    (dss_one (ds_ret (e_call Z T.D_row_with (by decide) (da_cons (e_call Z T.d_line_times (by decide) (da_cons (e_call Z T.d_line_in (by decide) (da_cons (e_var 0) da_nil)) (da_cons (e_call Z T.d_line_in (by decide) (da_cons (e_var 1) da_nil)) (da_cons (e_attr Z T.a_own_modulus (e_var 0)) da_nil)))) (da_cons (e_attr Z T.a_own_modulus (e_var 0)) da_nil))))))
structure T_Row_cut (P : Program) (w : World) (K : PySem.W.Frag) (mg : Str → Option Value) (base : Heap) (cn : Cn) : Prop where
  d_line_of : Cal P w K mg base cn 2 "line_of" m_line_of
  d_require_count : Cal P w K mg base cn 8 "require_count" m_require_count
  d_row_with : Cal P w K mg base cn 14 "row_with" m_row_with
  D_row_with : Cal P w K mg base cn 14 "row_with" (dfl m_row_with (.bl true))
  a_own_bottom : AttrOk cn "own_bottom" ta_own_bottom
  a_own_modulus : AttrOk cn "own_modulus" ta_own_modulus
  a_own_tops : AttrOk cn "own_tops" ta_own_tops
theorem S_Row_cut : FnScope ["self", "degree"] ["self", "degree"] (defScope s_Row_cut) := ⟨rfl, rfl, rfl, by decide +kernel, rfl, by decide +kernel, by decide +kernel⟩
theorem R_Row_cut (hK : K = cn.K) (G : Gs mg) (T : T_Row_cut P w K mg base cn) (F : FunD K "cut" "Row.cut" (defArgs s_Row_cut) (defBody s_Row_cut) (defScope s_Row_cut) [] [] f fd) : Dx.FnR P w K mg base (L2.CX P w) 16 f (spF cn m_Row_cut) :=
  fn0 (k := 15) hK F S_Row_cut (FunD.bindsN F fun _ _ _ _ _ _ us hl => match us, hl with | [_, _], _ => rfl) fun cdv A outer s H E c Z =>
    (dss_cons (ds_expr (e_call Z T.d_require_count (by decide) (da_cons (e_var 1) (da_cons de_int (da_cons (e_sub (e_len Z G.f_len (e_attr Z T.a_own_tops (e_var 0))) de_int) da_nil)))))
    (dss_one (ds_ret (e_call Z T.D_row_with (by decide) (da_cons (e_call Z T.d_line_of (by decide) (da_cons (de_sl Z.hK (e_attr Z T.a_own_tops (e_var 0)) dp_none (dp_some (e_add Z (e_var 1) de_int))) (da_cons (e_attr Z T.a_own_bottom (e_var 0)) (da_cons (e_attr Z T.a_own_modulus (e_var 0)) da_nil)))) (da_cons (e_attr Z T.a_own_modulus (e_var 0)) da_nil))))))
structure T_ghosts_told (P : Program) (w : World) (K : PySem.W.Frag) (mg : Str → Option Value) (base : Heap) (cn : Cn) : Prop where
  j_Witt : ∃ C, mg "Witt" = some (.ref C) ∧ IsiOk cn C tj_Witt
  r_InvalidGhosts : Xe0 K mg cn "InvalidGhosts" 11
  a_own_ghosts : AttrOk cn "own_ghosts" ta_own_ghosts
theorem S_ghosts_told : FnScope ["value"] ["value"] (defScope s_ghosts_told) := ⟨rfl, rfl, rfl, by decide +kernel, rfl, by decide +kernel, by decide +kernel⟩
theorem R_ghosts_told (hK : K = cn.K) (G : Gs mg) (T : T_ghosts_told P w K mg base cn) (F : FunD K "ghosts_told" "ghosts_told" (defArgs s_ghosts_told) (defBody s_ghosts_told) (defScope s_ghosts_told) [] [] f fd) : Dx.FnR P w K mg base (L2.CX P w) 2 f (spF cn m_ghosts_told) :=
  fn0 (k := 1) hK F S_ghosts_told (FunD.bindsN F fun _ _ _ _ _ _ us hl => match us, hl with | [_], _ => rfl) fun cdv A outer s H E c Z =>
    (dss_cons (ds_if (dt_not (t_tru Z (e_isi Z T.j_Witt G.f_isinstance (e_var 0)))) (dss_one (s_raise0 Z T.r_InvalidGhosts)) dss_nil)
    (dss_one (ds_ret (e_attr Z T.a_own_ghosts (e_var 0)))))
structure T_witt_made (P : Program) (w : World) (K : PySem.W.Frag) (mg : Str → Option Value) (base : Heap) (cn : Cn) : Prop where
  d_coordinates_in : Cal P w K mg base cn 6 "coordinates_in" m_coordinates_in
  k_Told : Mkr P w K mg base cn 2 "Told" 4 i_Told
  k_Witt : Mkr P w K mg base cn 12 "Witt" 5 i_Witt
theorem S_witt_made : FnScope ["ghosts"] ["ghosts"] (defScope s_witt_made) := ⟨rfl, rfl, rfl, by decide +kernel, rfl, by decide +kernel, by decide +kernel⟩
theorem R_witt_made (hK : K = cn.K) (G : Gs mg) (T : T_witt_made P w K mg base cn) (F : FunD K "witt_made" "witt_made" (defArgs s_witt_made) (defBody s_witt_made) (defScope s_witt_made) [] [] f fd) : Dx.FnR P w K mg base (L2.CX P w) 14 f (spF cn m_witt_made) :=
  fn0 (k := 13) hK F S_witt_made (FunD.bindsN F fun _ _ _ _ _ _ us hl => match us, hl with | [_], _ => rfl) fun cdv A outer s H E c Z =>
    (dss_one (ds_ret (e_make Z T.k_Witt (by decide) (da_cons (e_make Z T.k_Told (by decide) (da_cons (e_call Z T.d_coordinates_in (by decide) (da_cons (e_var 0) da_nil)) da_nil)) da_nil))))
structure T_Witt_plus (P : Program) (w : World) (K : PySem.W.Frag) (mg : Str → Option Value) (base : Heap) (cn : Cn) : Prop where
  d_ghosts_told : Cal P w K mg base cn 2 "ghosts_told" m_ghosts_told
  d_witt_made : Cal P w K mg base cn 14 "witt_made" m_witt_made
  a_own_ghosts : AttrOk cn "own_ghosts" ta_own_ghosts
theorem S_Witt_plus : FnScope ["self", "other", "one", "two"] ["self", "other"] (defScope s_Witt_plus) := ⟨rfl, rfl, rfl, by decide +kernel, rfl, by decide +kernel, by decide +kernel⟩
theorem R_Witt_plus (hK : K = cn.K) (G : Gs mg) (T : T_Witt_plus P w K mg base cn) (F : FunD K "plus" "Witt.plus" (defArgs s_Witt_plus) (defBody s_Witt_plus) (defScope s_Witt_plus) [] [] f fd) : Dx.FnR P w K mg base (L2.CX P w) 16 f (spF cn m_Witt_plus) :=
  fn0 (k := 15) hK F S_Witt_plus (FunD.bindsN F fun _ _ _ _ _ _ us hl => match us, hl with | [_, _], _ => rfl) fun cdv A outer s H E c Z =>
    (dss_one (ds_ret (e_call Z T.d_witt_made (by decide) (da_cons (de_frz (do_lc (own := [("one", 2), ("two", 3)]) Z.calm Z.nd (di_zip Z.hK (by rfl) G.f_zip (da_cons (e_attr Z T.a_own_ghosts (e_var 0)) (da_cons (e_call Z T.d_ghosts_told (by decide) (da_cons (e_var 1) da_nil)) da_nil))) (blkOk_by (N := ["self", "other", "one", "two"]) (sc := defScope s_Witt_plus) (own := [("one", 2), ("two", 3)]) (by decide +kernel)) (by decide) (fun s H C cl fp => (dg_tup Z.calm Z.hK (dgs_cons (dg_name (g_nm 2 Z.nd)) (dgs_cons (dg_name (g_nm 3 Z.nd)) dgs_nil)))) (fun s H C cl fp c1 h1 => dts_nil) (fun s H C cl fp c1 h1 => (e_add (Ctx.blk Z h1 s H _ _ fp) (e_var 2) (e_var 3))))) da_nil))))
structure T_Witt_minus (P : Program) (w : World) (K : PySem.W.Frag) (mg : Str → Option Value) (base : Heap) (cn : Cn) : Prop where
  d_ghosts_told : Cal P w K mg base cn 2 "ghosts_told" m_ghosts_told
  d_witt_made : Cal P w K mg base cn 14 "witt_made" m_witt_made
  a_own_ghosts : AttrOk cn "own_ghosts" ta_own_ghosts
theorem S_Witt_minus : FnScope ["self", "other", "one", "two"] ["self", "other"] (defScope s_Witt_minus) := ⟨rfl, rfl, rfl, by decide +kernel, rfl, by decide +kernel, by decide +kernel⟩
theorem R_Witt_minus (hK : K = cn.K) (G : Gs mg) (T : T_Witt_minus P w K mg base cn) (F : FunD K "minus" "Witt.minus" (defArgs s_Witt_minus) (defBody s_Witt_minus) (defScope s_Witt_minus) [] [] f fd) : Dx.FnR P w K mg base (L2.CX P w) 16 f (spF cn m_Witt_minus) :=
  fn0 (k := 15) hK F S_Witt_minus (FunD.bindsN F fun _ _ _ _ _ _ us hl => match us, hl with | [_, _], _ => rfl) fun cdv A outer s H E c Z =>
    (dss_one (ds_ret (e_call Z T.d_witt_made (by decide) (da_cons (de_frz (do_lc (own := [("one", 2), ("two", 3)]) Z.calm Z.nd (di_zip Z.hK (by rfl) G.f_zip (da_cons (e_attr Z T.a_own_ghosts (e_var 0)) (da_cons (e_call Z T.d_ghosts_told (by decide) (da_cons (e_var 1) da_nil)) da_nil))) (blkOk_by (N := ["self", "other", "one", "two"]) (sc := defScope s_Witt_minus) (own := [("one", 2), ("two", 3)]) (by decide +kernel)) (by decide) (fun s H C cl fp => (dg_tup Z.calm Z.hK (dgs_cons (dg_name (g_nm 2 Z.nd)) (dgs_cons (dg_name (g_nm 3 Z.nd)) dgs_nil)))) (fun s H C cl fp c1 h1 => dts_nil) (fun s H C cl fp c1 h1 => (e_sub (e_var 2) (e_var 3))))) da_nil))))
structure T_Witt_times (P : Program) (w : World) (K : PySem.W.Frag) (mg : Str → Option Value) (base : Heap) (cn : Cn) : Prop where
  d_ghosts_told : Cal P w K mg base cn 2 "ghosts_told" m_ghosts_told
  d_witt_made : Cal P w K mg base cn 14 "witt_made" m_witt_made
  a_own_ghosts : AttrOk cn "own_ghosts" ta_own_ghosts
theorem S_Witt_times : FnScope ["self", "other", "one", "two"] ["self", "other"] (defScope s_Witt_times) := ⟨rfl, rfl, rfl, by decide +kernel, rfl, by decide +kernel, by decide +kernel⟩
theorem R_Witt_times (hK : K = cn.K) (G : Gs mg) (T : T_Witt_times P w K mg base cn) (F : FunD K "times" "Witt.times" (defArgs s_Witt_times) (defBody s_Witt_times) (defScope s_Witt_times) [] [] f fd) : Dx.FnR P w K mg base (L2.CX P w) 16 f (spF cn m_Witt_times) :=
  fn0 (k := 15) hK F S_Witt_times (FunD.bindsN F fun _ _ _ _ _ _ us hl => match us, hl with | [_, _], _ => rfl) fun cdv A outer s H E c Z =>
    (dss_one (ds_ret (e_call Z T.d_witt_made (by decide) (da_cons (de_frz (do_lc (own := [("one", 2), ("two", 3)]) Z.calm Z.nd (di_zip Z.hK (by rfl) G.f_zip (da_cons (e_attr Z T.a_own_ghosts (e_var 0)) (da_cons (e_call Z T.d_ghosts_told (by decide) (da_cons (e_var 1) da_nil)) da_nil))) (blkOk_by (N := ["self", "other", "one", "two"]) (sc := defScope s_Witt_times) (own := [("one", 2), ("two", 3)]) (by decide +kernel)) (by decide) (fun s H C cl fp => (dg_tup Z.calm Z.hK (dgs_cons (dg_name (g_nm 2 Z.nd)) (dgs_cons (dg_name (g_nm 3 Z.nd)) dgs_nil)))) (fun s H C cl fp c1 h1 => dts_nil) (fun s H C cl fp c1 h1 => (e_mul (Ctx.blk Z h1 s H _ _ fp) (e_var 2) (e_var 3))))) da_nil))))
structure T_Witt_moved (P : Program) (w : World) (K : PySem.W.Frag) (mg : Str → Option Value) (base : Heap) (cn : Cn) : Prop where
  d_require_count : Cal P w K mg base cn 8 "require_count" m_require_count
  d_witt_made : Cal P w K mg base cn 14 "witt_made" m_witt_made
  a_own_ghosts : AttrOk cn "own_ghosts" ta_own_ghosts
theorem S_Witt_moved : FnScope ["self", "number", "found", "place"] ["self", "number"] (defScope s_Witt_moved) := ⟨rfl, rfl, rfl, by decide +kernel, rfl, by decide +kernel, by decide +kernel⟩
theorem R_Witt_moved (hK : K = cn.K) (G : Gs mg) (T : T_Witt_moved P w K mg base cn) (F : FunD K "moved" "Witt.moved" (defArgs s_Witt_moved) (defBody s_Witt_moved) (defScope s_Witt_moved) [] [] f fd) : Dx.FnR P w K mg base (L2.CX P w) 16 f (spF cn m_Witt_moved) :=
  fn0 (k := 15) hK F S_Witt_moved (FunD.bindsN F fun _ _ _ _ _ _ us hl => match us, hl with | [_, _], _ => rfl) fun cdv A outer s H E c Z =>
    (dss_cons (ds_expr (e_call Z T.d_require_count (by decide) (da_cons (e_var 1) (da_cons de_int (da_cons (de_gint (by rfl) G.c_MAX_GHOSTS) da_nil)))))
    (dss_cons (ds_setO (g_name 2 Z) (do_rep (de_frz (do_lst (da_cons de_int da_nil))) (e_len Z G.f_len (e_attr Z T.a_own_ghosts (e_var 0)))))
    (dss_cons (ds_for Z.pass Z.calm (di_range3 G.f_range (da_cons (e_var 1) (da_cons (e_add Z (e_thaw 2 Z (fun ct ht Zt => (e_len Zt G.f_len (e_var 2)))) de_int) (da_cons (e_var 1) da_nil)))) (dg_name (g_nm 3 Z.nd)) (dss_one (ds_ownSet (i := 2) (pv 2) (e_sub (e_var 3) de_int) (e_mul Z (e_var 1) (e_ix Z (e_attr Z T.a_own_ghosts (e_var 0)) (e_sub (e_div (e_var 3) (e_var 1)) de_int))))))
    (dss_one (ds_ret (e_call Z T.d_witt_made (by decide) (da_cons (e_var 2) da_nil)))))))
structure T_Witt_taken (P : Program) (w : World) (K : PySem.W.Frag) (mg : Str → Option Value) (base : Heap) (cn : Cn) : Prop where
  d_require_count : Cal P w K mg base cn 8 "require_count" m_require_count
  d_witt_made : Cal P w K mg base cn 14 "witt_made" m_witt_made
  r_InvalidOperation : Xe0 K mg cn "InvalidOperation" 12
  a_own_ghosts : AttrOk cn "own_ghosts" ta_own_ghosts
theorem S_Witt_taken : FnScope ["self", "number"] ["self", "number"] (defScope s_Witt_taken) := ⟨rfl, rfl, rfl, by decide +kernel, rfl, by decide +kernel, by decide +kernel⟩
theorem R_Witt_taken (hK : K = cn.K) (G : Gs mg) (T : T_Witt_taken P w K mg base cn) (F : FunD K "taken" "Witt.taken" (defArgs s_Witt_taken) (defBody s_Witt_taken) (defScope s_Witt_taken) [] [] f fd) : Dx.FnR P w K mg base (L2.CX P w) 16 f (spF cn m_Witt_taken) :=
  fn0 (k := 15) hK F S_Witt_taken (FunD.bindsN F fun _ _ _ _ _ _ us hl => match us, hl with | [_, _], _ => rfl) fun cdv A outer s H E c Z =>
    (dss_cons (ds_expr (e_call Z T.d_require_count (by decide) (da_cons (e_var 1) (da_cons de_int (da_cons (de_gint (by rfl) G.c_MAX_GHOSTS) da_nil)))))
    (dss_cons (ds_if (t_gt (e_var 1) (e_len Z G.f_len (e_attr Z T.a_own_ghosts (e_var 0)))) (dss_one (s_raise0 Z T.r_InvalidOperation)) dss_nil)
    (dss_one (ds_ret (e_call Z T.d_witt_made (by decide) (da_cons (de_frz (do_list Z.hK G.f_list (de_sl3 Z.hK (e_attr Z T.a_own_ghosts (e_var 0)) (dp_some (e_sub (e_var 1) de_int)) dp_none (dp_some (e_var 1))))) da_nil))))))
structure T_Witt_cut (P : Program) (w : World) (K : PySem.W.Frag) (mg : Str → Option Value) (base : Heap) (cn : Cn) : Prop where
  d_require_count : Cal P w K mg base cn 8 "require_count" m_require_count
  k_Told : Mkr P w K mg base cn 2 "Told" 4 i_Told
  k_Witt : Mkr P w K mg base cn 12 "Witt" 5 i_Witt
  a_own_coordinates : AttrOk cn "own_coordinates" ta_own_coordinates
theorem S_Witt_cut : FnScope ["self", "degree"] ["self", "degree"] (defScope s_Witt_cut) := ⟨rfl, rfl, rfl, by decide +kernel, rfl, by decide +kernel, by decide +kernel⟩
theorem R_Witt_cut (hK : K = cn.K) (G : Gs mg) (T : T_Witt_cut P w K mg base cn) (F : FunD K "cut" "Witt.cut" (defArgs s_Witt_cut) (defBody s_Witt_cut) (defScope s_Witt_cut) [] [] f fd) : Dx.FnR P w K mg base (L2.CX P w) 14 f (spF cn m_Witt_cut) :=
  fn0 (k := 13) hK F S_Witt_cut (FunD.bindsN F fun _ _ _ _ _ _ us hl => match us, hl with | [_, _], _ => rfl) fun cdv A outer s H E c Z =>
    (dss_cons (ds_expr (e_call Z T.d_require_count (by decide) (da_cons (e_var 1) (da_cons de_int (da_cons (e_len Z G.f_len (e_attr Z T.a_own_coordinates (e_var 0))) da_nil)))))
    (dss_one (ds_ret (e_make Z T.k_Witt (by decide) (da_cons (e_make Z T.k_Told (by decide) (da_cons (de_sl Z.hK (e_attr Z T.a_own_coordinates (e_var 0)) dp_none (dp_some (e_var 1))) da_nil)) da_nil)))))
structure T_Witt_rests (P : Program) (w : World) (K : PySem.W.Frag) (mg : Str → Option Value) (base : Heap) (cn : Cn) : Prop where
  d_is_short : Cal P w K mg base cn 4 "is_short" m_is_short
  r_InvalidModulus : Xe0 K mg cn "InvalidModulus" 8
  a_own_coordinates : AttrOk cn "own_coordinates" ta_own_coordinates
theorem S_Witt_rests : FnScope ["self", "modulus", "number"] ["self", "modulus"] (defScope s_Witt_rests) := ⟨rfl, rfl, rfl, by decide +kernel, rfl, by decide +kernel, by decide +kernel⟩
theorem R_Witt_rests (hK : K = cn.K) (G : Gs mg) (T : T_Witt_rests P w K mg base cn) (F : FunD K "rests" "Witt.rests" (defArgs s_Witt_rests) (defBody s_Witt_rests) (defScope s_Witt_rests) [] [] f fd) : Dx.FnR P w K mg base (L2.CX P w) 6 f (spF cn m_Witt_rests) :=
  fn0 (k := 5) hK F S_Witt_rests (FunD.bindsN F fun _ _ _ _ _ _ us hl => match us, hl with | [_, _], _ => rfl) fun cdv A outer s H E c Z =>
    (dss_cons (ds_if (dt_w (dw_or (dt_not (t_tru Z (e_call Z T.d_is_short (by decide) (da_cons (e_var 1) da_nil)))) (dw_or1 (dt_not (dt_chain op_le ok_cmpI op_le ok_cmpI de_int (e_var 1) (de_gint (by rfl) G.c_MOST_MODULUS_ghosts)))))) (dss_one (s_raise0 Z T.r_InvalidModulus)) dss_nil)
    (dss_one (ds_ret (e_tuple Z G.f_tuple (de_frz (do_lc (own := [("number", 2)]) Z.calm Z.nd (r_list Z (e_attr Z T.a_own_coordinates (e_var 0))) (blkOk_by (N := ["self", "modulus", "number"]) (sc := defScope s_Witt_rests) (own := [("number", 2)]) (by decide +kernel)) (by decide) (fun s H C cl fp => (dg_name (g_nm 2 Z.nd))) (fun s H C cl fp c1 h1 => dts_nil) (fun s H C cl fp c1 h1 => (e_mod (e_var 2) (e_var 1)))))))))
structure T__law_used_right (P : Program) (w : World) (K : PySem.W.Frag) (mg : Str → Option Value) (base : Heap) (cn : Cn) : Prop where
  d__law_pick : Cal P w K mg base cn 4 "_law_pick" m__law_pick
  K_Row : Mkr P w K mg base cn 12 "Row" 3 (dfl i_Row (.int (0)))
  k_Witt : Mkr P w K mg base cn 12 "Witt" 5 i_Witt
  q_cut : MthOk P w mg base cn 16 "cut" tm_cut
  q_minus : MthOk P w mg base cn 16 "minus" tm_minus
  q_moved : MthOk P w mg base cn 16 "moved" tm_moved
  q_plus : MthOk P w mg base cn 16 "plus" tm_plus
  q_rests : MthOk P w mg base cn 6 "rests" tm_rests
  q_taken : MthOk P w mg base cn 16 "taken" tm_taken
  q_times : MthOk P w mg base cn 16 "times" tm_times
  oeq : OeqOk P w mg base cn 2 teqT tkT
  t__law_met : ThkOk P w K mg base cn 2 "_law_met" m__law_met
theorem S__law_used_right : FnScope ["_law_dice_here", "_law_witt", "_law_none", "_law_many", "_law_size", "_law_modulus", "_law_told", "_law_due"] ["_law_dice_here"] (defScope s__law_used_right) := ⟨rfl, rfl, rfl, by decide +kernel, rfl, by decide +kernel, by decide +kernel⟩
theorem R__law_used_right (hK : K = cn.K) (G : Gs mg) (T : T__law_used_right P w K mg base cn) (TB : TabAt base K mg cn f ("_law_used_right" ++ ".<locals>." ++ "<lambda>")) (F : FunD K "_law_used_right" "_law_used_right" (defArgs s__law_used_right) (defBody s__law_used_right) (defScope s__law_used_right) [] [] f fd) : Dx.FnR P w K mg base (L2.CX P w) 20 f (spF cn m__law_used_right) :=
  fn0C (k := 19) hK F TB.c S__law_used_right (FunD.bindsN F fun _ _ _ _ _ _ us hl => match us, hl with | [_], _ => rfl) fun A outer s H E c Z =>
    (dss_cons (ds_set (g_name 1 Z) (e_make Z T.k_Witt (by decide) (da_cons (de_tup (da_cons de_int (da_cons de_int (da_cons (e_neg de_int) da_nil)))) da_nil)))
    (dss_cons (ds_set (g_name 2 Z) (e_call Z T.d__law_pick (by decide) (da_cons (e_var 0) (da_cons (de_frz (do_lst (da_cons de_non (da_cons de_int (da_cons (de_tup (da_cons de_int (da_cons de_int (da_cons (e_neg de_int) da_nil)))) (da_cons de_str (da_cons (e_make Z T.K_Row (by decide) (da_cons (de_tup (da_cons de_int (da_cons de_int da_nil))) da_nil)) (da_cons (de_frz (do_lst (da_cons (e_var 1) da_nil))) da_nil)))))))) da_nil))))
    (dss_cons (ds_set (g_name 3 Z) (e_call Z T.d__law_pick (by decide) (da_cons (e_var 0) (da_cons (de_frz (do_lst (da_cons de_int (da_cons de_int (da_cons (e_neg de_int) (da_cons de_non (da_cons de_bl (da_cons de_str (da_cons (e_pow de_int de_int) da_nil))))))))) da_nil))))
    (dss_cons (ds_set (g_name 4 Z) (e_call Z T.d__law_pick (by decide) (da_cons (e_var 0) (da_cons (de_frz (do_lst (da_cons de_int (da_cons de_int (da_cons (e_neg de_int) (da_cons de_non (da_cons de_bl (da_cons de_str (da_cons (e_pow de_int de_int) da_nil))))))))) da_nil))))
    (dss_cons (ds_set (g_name 5 Z) (e_call Z T.d__law_pick (by decide) (da_cons (e_var 0) (da_cons (de_frz (do_lst (da_cons de_int (da_cons de_int (da_cons (e_neg de_int) (da_cons de_int (da_cons de_non (da_cons de_bl (da_cons de_str (da_cons (e_pow de_int de_int) da_nil)))))))))) da_nil))))
    (dss_cons (ds_setO (g_name 6 Z) (do_lst (da_cons (e_thkJ (k := 17) Z T.t__law_met (by decide) TB.tb rfl TB.q (fun A outer s H E f c' c1 Z1 => (e_mth Z1 T.q_plus (by decide) (e_var 1) (da_cons (e_var 2) da_nil))) (show LamX.lamSB (defScope s__law_used_right) _ = true by decide +kernel)) da_nil)))
    (dss_cons (ds_expr (de_app (i := 6) (pv 6) (e_thkJ (k := 17) Z T.t__law_met (by decide) TB.tb rfl TB.q (fun A outer s H E f c' c1 Z1 => (e_mth Z1 T.q_minus (by decide) (e_var 1) (da_cons (e_var 2) da_nil))) (show LamX.lamSB (defScope s__law_used_right) _ = true by decide +kernel))))
    (dss_cons (ds_expr (de_app (i := 6) (pv 6) (e_thkJ (k := 17) Z T.t__law_met (by decide) TB.tb rfl TB.q (fun A outer s H E f c' c1 Z1 => (e_mth Z1 T.q_times (by decide) (e_var 1) (da_cons (e_var 2) da_nil))) (show LamX.lamSB (defScope s__law_used_right) _ = true by decide +kernel))))
    (dss_cons (ds_expr (de_app (i := 6) (pv 6) (e_thkJ (k := 17) Z T.t__law_met (by decide) TB.tb rfl TB.q (fun A outer s H E f c' c1 Z1 => (e_mth Z1 T.q_moved (by decide) (e_var 1) (da_cons (e_var 3) da_nil))) (show LamX.lamSB (defScope s__law_used_right) _ = true by decide +kernel))))
    (dss_cons (ds_expr (de_app (i := 6) (pv 6) (e_thkJ (k := 17) Z T.t__law_met (by decide) TB.tb rfl TB.q (fun A outer s H E f c' c1 Z1 => (e_mth Z1 T.q_moved (by decide) (e_var 1) (da_cons de_int da_nil))) (show LamX.lamSB (defScope s__law_used_right) _ = true by decide +kernel))))
    (dss_cons (ds_expr (de_app (i := 6) (pv 6) (e_thkJ (k := 17) Z T.t__law_met (by decide) TB.tb rfl TB.q (fun A outer s H E f c' c1 Z1 => (e_mth Z1 T.q_taken (by decide) (e_var 1) (da_cons (e_var 3) da_nil))) (show LamX.lamSB (defScope s__law_used_right) _ = true by decide +kernel))))
    (dss_cons (ds_expr (de_app (i := 6) (pv 6) (e_thkJ (k := 17) Z T.t__law_met (by decide) TB.tb rfl TB.q (fun A outer s H E f c' c1 Z1 => (e_mth Z1 T.q_taken (by decide) (e_var 1) (da_cons de_int da_nil))) (show LamX.lamSB (defScope s__law_used_right) _ = true by decide +kernel))))
    (dss_cons (ds_expr (de_app (i := 6) (pv 6) (e_thkJ (k := 17) Z T.t__law_met (by decide) TB.tb rfl TB.q (fun A outer s H E f c' c1 Z1 => (e_mth Z1 T.q_taken (by decide) (e_var 1) (da_cons de_int da_nil))) (show LamX.lamSB (defScope s__law_used_right) _ = true by decide +kernel))))
    (dss_cons (ds_expr (de_app (i := 6) (pv 6) (e_thkJ (k := 17) Z T.t__law_met (by decide) TB.tb rfl TB.q (fun A outer s H E f c' c1 Z1 => (e_mth Z1 T.q_cut (by decide) (e_var 1) (da_cons (e_var 4) da_nil))) (show LamX.lamSB (defScope s__law_used_right) _ = true by decide +kernel))))
    (dss_cons (ds_expr (de_app (i := 6) (pv 6) (e_thkJ (k := 17) Z T.t__law_met (by decide) TB.tb rfl TB.q (fun A outer s H E f c' c1 Z1 => (e_mth Z1 T.q_rests (by decide) (e_var 1) (da_cons (e_var 5) da_nil))) (show LamX.lamSB (defScope s__law_used_right) _ = true by decide +kernel))))
    (dss_cons (ds_set (g_name 7 Z) (e_add Z (e_mul Z (de_frz (do_lst (da_cons de_str da_nil))) de_int) (de_frz (do_lst (da_cons (e_add Z de_str (e_reprX Z G.f_repr (e_var 3))) (da_cons de_str (da_cons (e_add Z de_str (e_reprX Z G.f_repr (e_var 3))) (da_cons de_str (da_cons de_str da_nil)))))))))
    (dss_cons (ds_if (t_neY Z T.oeq (by decide) (e_var 6) (e_add Z (e_var 7) (de_frz (do_lst (da_cons (e_add Z de_str (e_reprX Z G.f_repr (e_var 4))) (da_cons de_str da_nil)))))) (dss_one (ds_ret de_bl)) dss_nil)
    (dss_one (ds_ret (de_and (e_neY Z T.oeq (by decide) (e_var 1) (e_var 2)) (de_and (e_neY Z T.oeq (by decide) (e_var 1) (e_make Z T.k_Witt (by decide) (da_cons (de_tup (da_cons de_int (da_cons de_int da_nil))) da_nil))) (de_and (e_eqY Z T.oeq (by decide) (e_var 1) (e_make Z T.k_Witt (by decide) (da_cons (de_tup (da_cons de_int (da_cons de_int (da_cons (e_neg de_int) da_nil)))) da_nil))) (de_one (e_neY Z T.oeq (by decide) (e_var 1) (e_make Z T.k_Witt (by decide) (da_cons (de_tup (da_cons de_int (da_cons de_int (da_cons de_int da_nil)))) da_nil))))))))))))))))))))))))))
structure T_law (P : Program) (w : World) (K : PySem.W.Frag) (mg : Str → Option Value) (base : Heap) (cn : Cn) : Prop where
  d__law_dice : Cal P w K mg base cn 2 "_law_dice" m__law_dice
  d__law_made_right : Cal P w K mg base cn 22 "_law_made_right" m__law_made_right
  d__law_used_right : Cal P w K mg base cn 20 "_law_used_right" m__law_used_right
  d_artin_row : Cal P w K mg base cn 18 "artin_row" m_artin_row
  d_counts_of : Cal P w K mg base cn 12 "counts_of" m_counts_of
  oeq : OeqOk P w mg base cn 2 teqT tkT
  t__law_met : ThkOk P w K mg base cn 2 "_law_met" m__law_met
theorem S_law : FnScope ["_law_script", "_law_spot", "_law_dice_here", "_law_told"] ["_law_script"] (defScope s_law) := ⟨rfl, rfl, rfl, by decide +kernel, rfl, by decide +kernel, by decide +kernel⟩
theorem O_law (hK : K = cn.K) (G : Gs mg) (T : T_law P w K mg base cn) (TB : TabAt base K mg cn f ("law" ++ ".<locals>." ++ "<lambda>")) (F : FunD K "law" "law" (defArgs s_law) (defBody s_law) (defScope s_law) [] [] f fd) : Dx.FnOk P w K mg base (L2.CX P w) 26 f fd ["_law_script"] (fun vs H Q E => vs.length = 1 ∧ spF cn m_law vs H Q E) :=
  fo0C (k := 25) hK F TB.c S_law fun A outer s H E c Z =>
    (dss_cons (ds_for Z.pass Z.calm (di_range1 (by rfl) G.f_range (da_cons (e_max Z G.f_max de_int (e_min Z G.f_min de_int (e_len Z G.f_len (e_var 0)))) da_nil)) (dg_name (g_nm 1 Z.nd)) (dss_cons (ds_setO (g_name 2 Z) (o_call Z T.d__law_dice (by decide) (da_cons (e_var 0) (da_cons (e_var 1) da_nil))))
    (dss_one (ds_if (dt_w (dw_or (dt_not (t_tru Z (e_lend Z T.d__law_made_right (by decide) 2 da_nil (pv 2)))) (dw_or1 (dt_not (t_tru Z (e_lend Z T.d__law_used_right (by decide) 2 da_nil (pv 2))))))) (dss_one (ds_ret de_bl)) dss_nil))))
    (dss_cons (ds_setO (g_name 3 Z) (do_lst (da_cons (e_thkJ (k := 23) Z T.t__law_met (by decide) TB.tb rfl TB.q (fun A outer s H E f c' c1 Z1 => (e_call Z1 T.d_counts_of (by decide) (da_cons (de_tup (da_cons (e_sub (e_pow de_int de_int) de_int) da_nil)) da_nil))) (show LamX.lamSB (defScope s_law) _ = true by decide +kernel)) da_nil)))
    (dss_cons (ds_expr (de_app (i := 3) (pv 3) (e_thkJ (k := 23) Z T.t__law_met (by decide) TB.tb rfl TB.q (fun A outer s H E f c' c1 Z1 => (e_call Z1 T.d_artin_row (by decide) (da_cons de_int (da_cons de_int da_nil)))) (show LamX.lamSB (defScope s_law) _ = true by decide +kernel))))
    (dss_one (ds_ret (de_and (e_eqY Z T.oeq (by decide) (e_var 3) (de_frz (do_lst (da_cons de_str (da_cons de_str da_nil))))) (de_one (e_eqY Z T.oeq (by decide) (de_gint (by rfl) G.c_MAX_GHOSTS) de_int))))))))
end
end K70

/-! Dx.Ev2: told words, compared. -/
namespace Dx
open PySem PySem.Spec PyProof.Rows L2
namespace Ev
/-- 'count ' and what repr says -/
def crep (d : D) : D := match reprX [d] with
  | some (.str s) => .str ("count " ++ s)
  | _ => .non
theorem crep_self (n : Nat) (d : D) : deq n (crep d) (crep d) = true := by
  have h : (∃ s, crep d = .str s) ∨ crep d = .non := by
    unfold crep
    split
    · exact .inl ⟨_, rfl⟩
    · exact .inr rfl
  rcases h with ⟨s, h⟩ | h
  · rw [h]
    cases n <;> simp [deq]
  · rw [h]
    cases n <;> simp [deq]
section
variable {S : G → Prop} {fa fb : LSt → Res D} {rest : LSt → Fl} {l : List Slot} {ds es : List D} {te : Nat → Option Fm} {tk : Nat → Bool}
theorem RT.eqY {l1 : List Slot} (ha : ∀ g, fa ⟨l, g⟩ = .ok (.lst ds) ⟨l1, g⟩) (hb : ∀ g, fb ⟨l1, g⟩ = .ok (.lst es) ⟨l1, g⟩) (hd : deqs 40 ds es = true) : RT S (zRet (sBin (Dx.eqY te tk) fa fb)) l := fun g hg => by
  refine ⟨g, hg, ?_⟩
  have e : Dx.eqY te tk (.lst ds) (.lst es) = some (.bl true) := eqX_deq (by show deqs 40 ds es = true; exact hd) rfl
  simp only [zRet, sBin, ha, hb, e, Res.bind, opt, Res.toFl, Fl.fr]
/-- if told != due: return False -/
theorem RT.neY {l1 : List Slot} (ha : ∀ g, fa ⟨l, g⟩ = .ok (.lst ds) ⟨l1, g⟩) (hb : ∀ g, fb ⟨l1, g⟩ = .ok (.lst es) ⟨l1, g⟩) (hd : neD (.lst ds) (.lst es) = some (.bl false)) (h : RT S rest l1) :
    RT S (zSeq (zIf (sTst (sBin (Dx.neY te tk) fa fb)) (zRet (sC (.bl false))) zNext) rest) l := fun g hg => by
  obtain ⟨g2, h2, e2⟩ := h g hg
  refine ⟨g2, h2, ?_⟩
  have e : Dx.neY te tk (.lst ds) (.lst es) = some (.bl false) := hd
  rw [seq_nx (l1 := ⟨l1, g⟩) (by simp only [zIf, sTst, sBin, ha, hb, e, Res.bind, opt, blD, Res.toFl, zNext, Bool.false_eq_true, reduceIte])]
  exact e2
end
end Ev
end Dx

/-! k70: what the mirrors compute (printed by errgen.py). -/
namespace K70
open PySem PySem.Spec PyProof.Rows L2 Dx Dx.Ev
theorem pk : m__law_pick = Ev.m__law_pick := rfl
abbrev m_made_0 : List D := [.non, .tup [], .lst [.int (1), .int (3)], .tup [.int (1), .non], .tup [.bl true], .str "13", .tup [.int (1), .int (1), .int (1), .int (1), .int (1), .int (1), .int (1), .int (1), .int (1), .int (1), .int (1), .int (1), .int (1), .int (1), .int (1), .int (1), .int (1), .int (1), .int (1), .int (1), .int (1), .int (1), .int (1), .int (1), .int (1)], .tup [.int (1000000000000000000000000000000000000000000000000000000000000)], .int (5), .tup [.ins 1 [.int (1), .int (1)]]]
abbrev m_made_1 : List D := [.tup [.int (1), .int (2)], .tup [.int (0), .int (1)], .tup [.int (1), .int (1), .int (2)], .tup [.int (5), .int (2), .int (5)]]
abbrev m_made_2 : List D := [.non, .tup [.int (1), .int (1)], .str "1 + x", .int (1), .lst [.int (1), .int (1)], .ins 5 [.tup [.int (1), .int (2)], .tup [.int (1), .int (2)], .tup [.int (1), .int (5)]]]
abbrev m_made_3 : List D := [.ins 3 [.int (1), .tup [.ins 1 [.int (1), .int (1)]], .int (0), .int (0), .tup [.int (1)]], .ins 3 [.int (1), .tup [.ins 1 [.int (1), .int (0)], .ins 1 [.int (1), .int (1)]], .int (0), .int (1), .tup [.int (0), .int (1)]], .ins 3 [.int (1), .tup [.ins 1 [.int (1), .int (2)], .ins 1 [.int (1), .int (1)]], .int (0), .int (0), .tup [.int (2), .int (1)]], .ins 3 [.int (2), .tup [.ins 1 [.int (1), .int (1)], .ins 1 [.int (2), .int (1)]], .int (0), .int (0), .tup [.int (2), .int (1)]], .ins 3 [.int (1), .tup [.int (1), .int (1)], .int (3), .int (0), .tup [.int (1), .int (1)]], .ins 3 [.int (1), .tup [.ins 1 [.int (1), .int (-1)], .ins 1 [.int (1), .int (1)]], .int (0), .int (0), .tup [.int (-1), .int (1)]]]
abbrev m_made_4 : List D := [.non, .int (1), .int (4), .int (0), .int (-3), .int (1009), .bl true, .str "2", .int (1000000000000000000000000000000000000000000000000000000000000)]
abbrev m_made_5 : List D := [.int (0), .int (25), .int (-1), .non, .bl true, .str "1", .int (1000000000000000000000000000000000000000000000000000000000000)]
abbrev m_made_6 : List D := [.non, .bl true, .str "1", .int (1000000000000000000000000000000000000000000000000000000000000), .tup [.int (1)]]
abbrev x_used_1 : D := .ins 5 [.tup [.int (1), .int (2), .int (-1)], .tup [.int (1), .int (2), .int (-1)], .tup [.int (1), .int (5), .int (-2)]]
abbrev m_used_1 : List D := [.non, .int (1), .tup [.int (1), .int (2), .int (-1)], .str "witt 1 2 -1", .ins 3 [.int (1), .tup [.ins 1 [.int (1), .int (1)], .ins 1 [.int (1), .int (1)]], .int (0), .int (0), .tup [.int (1), .int (1)]], .lst [.ins 5 [.tup [.int (1), .int (2), .int (-1)], .tup [.int (1), .int (2), .int (-1)], .tup [.int (1), .int (5), .int (-2)]]]]
abbrev m_used_2 : List D := [.int (0), .int (25), .int (-1), .non, .bl true, .str "1", .int (1000000000000000000000000000000000000000000000000000000000000)]
abbrev m_used_3 : List D := [.int (0), .int (4), .int (-1), .non, .bl true, .str "1", .int (1000000000000000000000000000000000000000000000000000000000000)]
abbrev m_used_4 : List D := [.int (0), .int (1), .int (-2), .int (10001), .non, .bl true, .str "2", .int (1000000000000000000000000000000000000000000000000000000000000)]
theorem made_ok : RT sD b__law_made_right [.v .dice, .un, .un, .un, .un, .un, .un, .un, .un, .un] := by
  unfold b__law_made_right
  refine RT.pick pk rfl (ds := m_made_0) (fun g => by kernel_rfl) (by simp) (by decide) fun a ha => ?_
  show RT sD _ [.v .dice, .v a, .un, .un, .un, .un, .un, .un, .un, .un]
  refine RT.pick pk rfl (ds := m_made_1) (fun g => by kernel_rfl) (by simp) (by decide) fun b hb => ?_
  show RT sD _ [.v .dice, .v a, .v b, .un, .un, .un, .un, .un, .un, .un]
  refine RT.pick pk rfl (ds := m_made_2) (fun g => by kernel_rfl) (by simp) (by decide) fun c hc => ?_
  show RT sD _ [.v .dice, .v a, .v b, .v c, .un, .un, .un, .un, .un, .un]
  refine RT.pick pk rfl (ds := m_made_3) (fun g => by kernel_rfl) (by simp) (by decide) fun d hd => ?_
  show RT sD _ [.v .dice, .v a, .v b, .v c, .v d, .un, .un, .un, .un, .un]
  refine RT.pick pk rfl (ds := m_made_4) (fun g => by kernel_rfl) (by simp) (by decide) fun e he => ?_
  show RT sD _ [.v .dice, .v a, .v b, .v c, .v d, .v e, .un, .un, .un, .un]
  refine RT.pick pk rfl (ds := m_made_5) (fun g => by kernel_rfl) (by simp) (by decide) fun f hf => ?_
  show RT sD _ [.v .dice, .v a, .v b, .v c, .v d, .v e, .v f, .un, .un, .un]
  refine RT.pick pk rfl (ds := m_made_6) (fun g => by kernel_rfl) (by simp) (by decide) fun h hh => ?_
  show RT sD _ [.v .dice, .v a, .v b, .v c, .v d, .v e, .v f, .v h, .un, .un]
  refine RT.own1 (d := .str "ghosts") (.of fun g => by (simp only [List.mem_cons, List.not_mem_nil, or_false] at ha; rcases ha with rfl | rfl | rfl | rfl | rfl | rfl | rfl | rfl | rfl | rfl <;> kernel_rfl)) ?_
  show RT sD _ [.v .dice, .v a, .v b, .v c, .v d, .v e, .v f, .v h, .own (.lst [.str "ghosts"]), .un]
  refine RT.app rfl (by simp) (d := .str "ghosts") (.of fun g => by (simp only [List.mem_cons, List.not_mem_nil, or_false] at ha; rcases ha with rfl | rfl | rfl | rfl | rfl | rfl | rfl | rfl | rfl | rfl <;> kernel_rfl)) ?_
  show RT sD _ [.v .dice, .v a, .v b, .v c, .v d, .v e, .v f, .v h, .own (.lst [.str "ghosts", .str "ghosts"]), .un]
  refine RT.app rfl (by simp) (d := .str "ghosts") (.of fun g => by (simp only [List.mem_cons, List.not_mem_nil, or_false] at ha; rcases ha with rfl | rfl | rfl | rfl | rfl | rfl | rfl | rfl | rfl | rfl <;> kernel_rfl)) ?_
  show RT sD _ [.v .dice, .v a, .v b, .v c, .v d, .v e, .v f, .v h, .own (.lst [.str "ghosts", .str "ghosts", .str "ghosts"]), .un]
  refine RT.app rfl (by simp) (d := .str "operation") (.of fun g => by (simp only [List.mem_cons, List.not_mem_nil, or_false] at hb; rcases hb with rfl | rfl | rfl | rfl <;> kernel_rfl)) ?_
  show RT sD _ [.v .dice, .v a, .v b, .v c, .v d, .v e, .v f, .v h, .own (.lst [.str "ghosts", .str "ghosts", .str "ghosts", .str "operation"]), .un]
  refine RT.app rfl (by simp) (d := .str "ghosts") (.of fun g => by (simp only [List.mem_cons, List.not_mem_nil, or_false] at ha; rcases ha with rfl | rfl | rfl | rfl | rfl | rfl | rfl | rfl | rfl | rfl <;> kernel_rfl)) ?_
  show RT sD _ [.v .dice, .v a, .v b, .v c, .v d, .v e, .v f, .v h, .own (.lst [.str "ghosts", .str "ghosts", .str "ghosts", .str "operation", .str "ghosts"]), .un]
  refine RT.app rfl (by simp) (d := .str "ghosts") (.of fun g => by (simp only [List.mem_cons, List.not_mem_nil, or_false] at ha; rcases ha with rfl | rfl | rfl | rfl | rfl | rfl | rfl | rfl | rfl | rfl <;> kernel_rfl)) ?_
  show RT sD _ [.v .dice, .v a, .v b, .v c, .v d, .v e, .v f, .v h, .own (.lst [.str "ghosts", .str "ghosts", .str "ghosts", .str "operation", .str "ghosts", .str "ghosts"]), .un]
  refine RT.app rfl (by simp) (d := .str "operation") (.of fun g => by (simp only [List.mem_cons, List.not_mem_nil, or_false] at hb; rcases hb with rfl | rfl | rfl | rfl <;> kernel_rfl)) ?_
  show RT sD _ [.v .dice, .v a, .v b, .v c, .v d, .v e, .v f, .v h, .own (.lst [.str "ghosts", .str "ghosts", .str "ghosts", .str "operation", .str "ghosts", .str "ghosts", .str "operation"]), .un]
  refine RT.app rfl (by simp) (d := .str "row") (.of fun g => by (simp only [List.mem_cons, List.not_mem_nil, or_false] at hc; rcases hc with rfl | rfl | rfl | rfl | rfl | rfl <;> kernel_rfl)) ?_
  show RT sD _ [.v .dice, .v a, .v b, .v c, .v d, .v e, .v f, .v h, .own (.lst [.str "ghosts", .str "ghosts", .str "ghosts", .str "operation", .str "ghosts", .str "ghosts", .str "operation", .str "row"]), .un]
  refine RT.app rfl (by simp) (d := .str "operation") (.of fun g => by (simp only [List.mem_cons, List.not_mem_nil, or_false] at hd; rcases hd with rfl | rfl | rfl | rfl | rfl | rfl <;> kernel_rfl)) ?_
  show RT sD _ [.v .dice, .v a, .v b, .v c, .v d, .v e, .v f, .v h, .own (.lst [.str "ghosts", .str "ghosts", .str "ghosts", .str "operation", .str "ghosts", .str "ghosts", .str "operation", .str "row", .str "operation"]), .un]
  refine RT.app rfl (by simp) (d := crep h) (.of fun g => by (simp only [List.mem_cons, List.not_mem_nil, or_false] at hh; rcases hh with rfl | rfl | rfl | rfl | rfl <;> kernel_rfl)) ?_
  show RT sD _ [.v .dice, .v a, .v b, .v c, .v d, .v e, .v f, .v h, .own (.lst [.str "ghosts", .str "ghosts", .str "ghosts", .str "operation", .str "ghosts", .str "ghosts", .str "operation", .str "row", .str "operation", crep h]), .un]
  refine RT.app rfl (by simp) (d := crep f) (.of fun g => by (simp only [List.mem_cons, List.not_mem_nil, or_false] at hf; rcases hf with rfl | rfl | rfl | rfl | rfl | rfl | rfl <;> kernel_rfl)) ?_
  show RT sD _ [.v .dice, .v a, .v b, .v c, .v d, .v e, .v f, .v h, .own (.lst [.str "ghosts", .str "ghosts", .str "ghosts", .str "operation", .str "ghosts", .str "ghosts", .str "operation", .str "row", .str "operation", crep h, crep f]), .un]
  refine RT.app rfl (by simp) (d := .str "prime") (.of fun g => by (simp only [List.mem_cons, List.not_mem_nil, or_false] at he; rcases he with rfl | rfl | rfl | rfl | rfl | rfl | rfl | rfl | rfl <;> kernel_rfl)) ?_
  show RT sD _ [.v .dice, .v a, .v b, .v c, .v d, .v e, .v f, .v h, .own (.lst [.str "ghosts", .str "ghosts", .str "ghosts", .str "operation", .str "ghosts", .str "ghosts", .str "operation", .str "row", .str "operation", crep h, crep f, .str "prime"]), .un]
  refine RT.app rfl (by simp) (d := crep f) (.of fun g => by (simp only [List.mem_cons, List.not_mem_nil, or_false] at hf; rcases hf with rfl | rfl | rfl | rfl | rfl | rfl | rfl <;> kernel_rfl)) ?_
  show RT sD _ [.v .dice, .v a, .v b, .v c, .v d, .v e, .v f, .v h, .own (.lst [.str "ghosts", .str "ghosts", .str "ghosts", .str "operation", .str "ghosts", .str "ghosts", .str "operation", .str "row", .str "operation", crep h, crep f, .str "prime", crep f]), .un]
  refine RT.set (d := .lst [.str "ghosts", .str "ghosts", .str "ghosts", .str "operation", .str "ghosts", .str "ghosts", .str "operation", .str "row", .str "operation"]) (.of fun g => by kernel_rfl) ?_
  show RT sD _ [.v .dice, .v a, .v b, .v c, .v d, .v e, .v f, .v h, .own (.lst [.str "ghosts", .str "ghosts", .str "ghosts", .str "operation", .str "ghosts", .str "ghosts", .str "operation", .str "row", .str "operation", crep h, crep f, .str "prime", crep f]), .v (.lst [.str "ghosts", .str "ghosts", .str "ghosts", .str "operation", .str "ghosts", .str "ghosts", .str "operation", .str "row", .str "operation"])]
  refine RT.eqY (l1 := [.v .dice, .v a, .v b, .v c, .v d, .v e, .v f, .v h, .v (.lst [.str "ghosts", .str "ghosts", .str "ghosts", .str "operation", .str "ghosts", .str "ghosts", .str "operation", .str "row", .str "operation", crep h, crep f, .str "prime", crep f]), .v (.lst [.str "ghosts", .str "ghosts", .str "ghosts", .str "operation", .str "ghosts", .str "ghosts", .str "operation", .str "row", .str "operation"])]) (ds := [.str "ghosts", .str "ghosts", .str "ghosts", .str "operation", .str "ghosts", .str "ghosts", .str "operation", .str "row", .str "operation", crep h, crep f, .str "prime", crep f]) (es := [.str "ghosts", .str "ghosts", .str "ghosts", .str "operation", .str "ghosts", .str "ghosts", .str "operation", .str "row", .str "operation", crep h, crep f, .str "prime", crep f]) (fun g => by kernel_rfl) (fun g => by (simp only [List.mem_cons, List.not_mem_nil, or_false] at hh hf; rcases hh with rfl | rfl | rfl | rfl | rfl <;> rcases hf with rfl | rfl | rfl | rfl | rfl | rfl | rfl <;> kernel_rfl)) ?_
  simp [deqs, deq, crep_self]
theorem used_ok : RT sD b__law_used_right [.v .dice, .un, .un, .un, .un, .un, .un, .un] := by
  unfold b__law_used_right
  refine RT.nx (l1 := [.v .dice, .v x_used_1, .un, .un, .un, .un, .un, .un]) (fun g => by kernel_rfl) ?_
  show RT sD _ [.v .dice, .v x_used_1, .un, .un, .un, .un, .un, .un]
  refine RT.pick pk rfl (ds := m_used_1) (fun g => by kernel_rfl) (by simp) (by decide) fun a ha => ?_
  show RT sD _ [.v .dice, .v x_used_1, .v a, .un, .un, .un, .un, .un]
  refine RT.pick pk rfl (ds := m_used_2) (fun g => by kernel_rfl) (by simp) (by decide) fun b hb => ?_
  show RT sD _ [.v .dice, .v x_used_1, .v a, .v b, .un, .un, .un, .un]
  refine RT.pick pk rfl (ds := m_used_3) (fun g => by kernel_rfl) (by simp) (by decide) fun c hc => ?_
  show RT sD _ [.v .dice, .v x_used_1, .v a, .v b, .v c, .un, .un, .un]
  refine RT.pick pk rfl (ds := m_used_4) (fun g => by kernel_rfl) (by simp) (by decide) fun d hd => ?_
  show RT sD _ [.v .dice, .v x_used_1, .v a, .v b, .v c, .v d, .un, .un]
  refine RT.own1 (d := .str "ghosts") (.of fun g => by (simp only [List.mem_cons, List.not_mem_nil, or_false] at ha; rcases ha with rfl | rfl | rfl | rfl | rfl | rfl <;> kernel_rfl)) ?_
  show RT sD _ [.v .dice, .v x_used_1, .v a, .v b, .v c, .v d, .own (.lst [.str "ghosts"]), .un]
  refine RT.app rfl (by simp) (d := .str "ghosts") (.of fun g => by (simp only [List.mem_cons, List.not_mem_nil, or_false] at ha; rcases ha with rfl | rfl | rfl | rfl | rfl | rfl <;> kernel_rfl)) ?_
  show RT sD _ [.v .dice, .v x_used_1, .v a, .v b, .v c, .v d, .own (.lst [.str "ghosts", .str "ghosts"]), .un]
  refine RT.app rfl (by simp) (d := .str "ghosts") (.of fun g => by (simp only [List.mem_cons, List.not_mem_nil, or_false] at ha; rcases ha with rfl | rfl | rfl | rfl | rfl | rfl <;> kernel_rfl)) ?_
  show RT sD _ [.v .dice, .v x_used_1, .v a, .v b, .v c, .v d, .own (.lst [.str "ghosts", .str "ghosts", .str "ghosts"]), .un]
  refine RT.app rfl (by simp) (d := crep b) (.of fun g => by (simp only [List.mem_cons, List.not_mem_nil, or_false] at hb; rcases hb with rfl | rfl | rfl | rfl | rfl | rfl | rfl <;> kernel_rfl)) ?_
  show RT sD _ [.v .dice, .v x_used_1, .v a, .v b, .v c, .v d, .own (.lst [.str "ghosts", .str "ghosts", .str "ghosts", crep b]), .un]
  refine RT.app rfl (by simp) (d := .str "fine") (.of fun g => by kernel_rfl) ?_
  show RT sD _ [.v .dice, .v x_used_1, .v a, .v b, .v c, .v d, .own (.lst [.str "ghosts", .str "ghosts", .str "ghosts", crep b, .str "fine"]), .un]
  refine RT.app rfl (by simp) (d := crep b) (.of fun g => by (simp only [List.mem_cons, List.not_mem_nil, or_false] at hb; rcases hb with rfl | rfl | rfl | rfl | rfl | rfl | rfl <;> kernel_rfl)) ?_
  show RT sD _ [.v .dice, .v x_used_1, .v a, .v b, .v c, .v d, .own (.lst [.str "ghosts", .str "ghosts", .str "ghosts", crep b, .str "fine", crep b]), .un]
  refine RT.app rfl (by simp) (d := .str "operation") (.of fun g => by kernel_rfl) ?_
  show RT sD _ [.v .dice, .v x_used_1, .v a, .v b, .v c, .v d, .own (.lst [.str "ghosts", .str "ghosts", .str "ghosts", crep b, .str "fine", crep b, .str "operation"]), .un]
  refine RT.app rfl (by simp) (d := .str "operation") (.of fun g => by kernel_rfl) ?_
  show RT sD _ [.v .dice, .v x_used_1, .v a, .v b, .v c, .v d, .own (.lst [.str "ghosts", .str "ghosts", .str "ghosts", crep b, .str "fine", crep b, .str "operation", .str "operation"]), .un]
  refine RT.app rfl (by simp) (d := crep c) (.of fun g => by (simp only [List.mem_cons, List.not_mem_nil, or_false] at hc; rcases hc with rfl | rfl | rfl | rfl | rfl | rfl | rfl <;> kernel_rfl)) ?_
  show RT sD _ [.v .dice, .v x_used_1, .v a, .v b, .v c, .v d, .own (.lst [.str "ghosts", .str "ghosts", .str "ghosts", crep b, .str "fine", crep b, .str "operation", .str "operation", crep c]), .un]
  refine RT.app rfl (by simp) (d := .str "modulus") (.of fun g => by (simp only [List.mem_cons, List.not_mem_nil, or_false] at hd; rcases hd with rfl | rfl | rfl | rfl | rfl | rfl | rfl | rfl <;> kernel_rfl)) ?_
  show RT sD _ [.v .dice, .v x_used_1, .v a, .v b, .v c, .v d, .own (.lst [.str "ghosts", .str "ghosts", .str "ghosts", crep b, .str "fine", crep b, .str "operation", .str "operation", crep c, .str "modulus"]), .un]
  refine RT.set (d := .lst [.str "ghosts", .str "ghosts", .str "ghosts", crep b, .str "fine", crep b, .str "operation", .str "operation"]) (.of fun g => by (simp only [List.mem_cons, List.not_mem_nil, or_false] at hb; rcases hb with rfl | rfl | rfl | rfl | rfl | rfl | rfl <;> kernel_rfl)) ?_
  show RT sD _ [.v .dice, .v x_used_1, .v a, .v b, .v c, .v d, .own (.lst [.str "ghosts", .str "ghosts", .str "ghosts", crep b, .str "fine", crep b, .str "operation", .str "operation", crep c, .str "modulus"]), .v (.lst [.str "ghosts", .str "ghosts", .str "ghosts", crep b, .str "fine", crep b, .str "operation", .str "operation"])]
  refine RT.neY (l1 := [.v .dice, .v x_used_1, .v a, .v b, .v c, .v d, .v (.lst [.str "ghosts", .str "ghosts", .str "ghosts", crep b, .str "fine", crep b, .str "operation", .str "operation", crep c, .str "modulus"]), .v (.lst [.str "ghosts", .str "ghosts", .str "ghosts", crep b, .str "fine", crep b, .str "operation", .str "operation"])]) (ds := [.str "ghosts", .str "ghosts", .str "ghosts", crep b, .str "fine", crep b, .str "operation", .str "operation", crep c, .str "modulus"]) (es := [.str "ghosts", .str "ghosts", .str "ghosts", crep b, .str "fine", crep b, .str "operation", .str "operation", crep c, .str "modulus"]) (fun g => by kernel_rfl) (fun g => by (simp only [List.mem_cons, List.not_mem_nil, or_false] at hc; rcases hc with rfl | rfl | rfl | rfl | rfl | rfl | rfl <;> kernel_rfl)) (by (simp only [List.mem_cons, List.not_mem_nil, or_false] at hb hc; rcases hb with rfl | rfl | rfl | rfl | rfl | rfl | rfl <;> rcases hc with rfl | rfl | rfl | rfl | rfl | rfl | rfl <;> kernel_rfl)) ?_
  show RT sD _ [.v .dice, .v x_used_1, .v a, .v b, .v c, .v d, .v (.lst [.str "ghosts", .str "ghosts", .str "ghosts", crep b, .str "fine", crep b, .str "operation", .str "operation", crep c, .str "modulus"]), .v (.lst [.str "ghosts", .str "ghosts", .str "ghosts", crep b, .str "fine", crep b, .str "operation", .str "operation"])]
  exact RT.retx (l1 := [.v .dice, .v x_used_1, .v a, .v b, .v c, .v d, .v (.lst [.str "ghosts", .str "ghosts", .str "ghosts", crep b, .str "fine", crep b, .str "operation", .str "operation", crep c, .str "modulus"]), .v (.lst [.str "ghosts", .str "ghosts", .str "ghosts", crep b, .str "fine", crep b, .str "operation", .str "operation"])]) fun g => by (simp only [List.mem_cons, List.not_mem_nil, or_false] at ha; rcases ha with rfl | rfl | rfl | rfl | rfl | rfl <;> kernel_rfl)
theorem body (ns : List Int) (s1 : Slot) (x y z : Int) : ∃ x' y' z' : Int, ((zIf (sOr (sNot (sTru (sLend 2 m__law_made_right sNil))) (sNot (sTru (sLend 2 m__law_used_right sNil)))) (zRet (sC (.bl false))) zNext)) ⟨.v (.scr ns) :: s1 :: .own (.lst [.int x, .int y, .int z]) :: [.un], ⟨none, none⟩⟩ = .nx ⟨.v (.scr ns) :: s1 :: .own (.lst [.int x', .int y', .int z']) :: [.un], ⟨none, none⟩⟩ := by
  obtain ⟨x0, y0, z0, e0⟩ := not_lend (m := m__law_made_right) rfl made_ok (.v (.scr ns)) s1 x y z [.un]
  obtain ⟨x1, y1, z1, e1⟩ := not_lend (m := m__law_used_right) rfl used_ok (.v (.scr ns)) s1 x0 y0 z0 [.un]
  refine ⟨x1, y1, z1, ?_⟩
  simp only [zSeq, zIf, sOr, e0, e1, Res.bind, Res.toFl, Fl.seq, zNext, Bool.false_eq_true, reduceIte]
theorem plain (ns : List Int) (_hl : ns.length ≤ 63) : ∃ g, m_law [.scr ns] ⟨none, none⟩ = .ok (.v (.bl true)) g := by
  obtain ⟨s1, s2, e⟩ := law_loopB ns 3 (by decide) (m := m__law_dice) rfl (tl := [.un]) (body ns)
  unfold m_law b_law
  refine law_end (l1 := .v (.scr ns) :: s1 :: s2 :: [.un]) e ?_
  refine RT.own1 (d := .str "fine") (.of fun g => by kernel_rfl) ?_
  show RT sN _ [.v (.scr ns), s1, s2, .own (.lst [.str "fine"])]
  refine RT.app rfl (by simp) (d := .str "fine") (.of fun g => by kernel_rfl) ?_
  show RT sN _ [.v (.scr ns), s1, s2, .own (.lst [.str "fine", .str "fine"])]
  exact RT.retx (l1 := [.v (.scr ns), s1, s2, .v (.lst [.str "fine", .str "fine"])]) fun g => by kernel_rfl
end K70

namespace K70
open PySem PySem.Spec PyProof.Rows L2 Dx
theorem X_InvalidCount : DxR.XinS sx_InvalidCount "self" "value" "value" := ⟨⟨_, _, _, _, _, _, _, _, _, _, _, _, rfl, fun _ => rfl, fun _ => rfl⟩, ⟨_, rfl, rfl⟩, fun _ _ _ _ _ _ _ _ _ _ _ => rfl, rfl, rfl, rfl, rfl, by decide, by decide +kernel, rfl, rfl, rfl, by decide, by decide⟩
def cnK (K : PySem.W.Frag) : Cn := ⟨K, fun n => match n with
  | 0 => He.ga K "Terms"
  | 1 => He.ga K "Ratio"
  | 2 => He.ga K "Made"
  | 3 => He.ga K "Row"
  | 4 => He.ga K "Told"
  | 5 => He.ga K "Witt"
  | 6 => He.ga K "SeriesError"
  | 7 => He.ga K "InvalidRatio"
  | 8 => He.ga K "InvalidModulus"
  | 9 => He.ga K "InvalidRow"
  | 10 => He.ga K "InvalidPrime"
  | 11 => He.ga K "InvalidGhosts"
  | 12 => He.ga K "InvalidOperation"
  | 13 => He.ga K "ParseError"
  | 14 => He.ga K "InvalidCount"
  | _ => 0, fun n => match n with
  | 0 => He.ga K "Terms"
  | 1 => He.ga K "Ratio"
  | 2 => He.ga K "Made"
  | 3 => He.ga K "Row"
  | 4 => He.ga K "Told"
  | 5 => He.ga K "Witt"
  | _ => 0, fun n => match n with
  | 13 => "spot"
  | 14 => "value"
  | _ => Str.empty, tqL (tqK K), fun P => decide (P ∈ tgK K)⟩
section
variable {w : World} {K : PySem.W.Frag} {h : Heap} {mg : Str → Option Value} {base : Heap}
theorem gs (X : K.In h) (G : h.Ns mainGlobals mg) (c : tst.x.see K = tst.x.due) : Gs mg :=
  ⟨He.int_ok X G (TstX.tst c 0),
   He.int_ok X G (TstX.tst c 1),
   He.int_ok X G (TstX.tst c 2),
   He.int_ok X G (TstX.tst c 3),
   He.int_ok X G (TstX.tst c 4),
   He.int_ok X G (TstX.tst c 5),
   He.int_ok X G (TstX.tst c 6),
   (He.free_ok X G (TstX.tst c 7)),
   (He.free_ok X G (TstX.tst c 8)),
   (He.free_ok X G (TstX.tst c 9)),
   (He.free_ok X G (TstX.tst c 10)),
   PySem.W.mg_of X G (He.eqO_ok (TstX.tst c 11)),
   (He.free_ok X G (TstX.tst c 12)),
   (He.free_ok X G (TstX.tst c 13)),
   (He.free_ok X G (TstX.tst c 14)),
   (He.free_ok X G (TstX.tst c 15)),
   (He.free_ok X G (TstX.tst c 16)),
   (He.free_ok X G (TstX.tst c 17)),
   (He.free_ok X G (TstX.tst c 18)),
   (He.free_ok X G (TstX.tst c 19)),
   (He.free_ok X G (TstX.tst c 20)),
   (He.free_ok X G (TstX.tst c 21)),
   (He.free_ok X G (TstX.tst c 22)),
   (He.free_ok X G (TstX.tst c 23)),
   (He.free_ok X G (TstX.tst c 24))⟩
theorem tb__law_made_right (c : tst.x.see K = tst.x.due) (TBs : ∀ p ∈ csK K, LamX.TabB base mg p.1 p.2) : TabAt base K mg (cnK K) (He.ga K "_law_made_right") ("_law_made_right" ++ ".<locals>." ++ "<lambda>") :=
  ⟨(TstX.tst c 25), TBs _ (List.mem_of_getElem? (i := 0) rfl), (of_decide_eq_true (TstX.tst c 26))⟩
theorem tb__law_used_right (c : tst.x.see K = tst.x.due) (TBs : ∀ p ∈ csK K, LamX.TabB base mg p.1 p.2) : TabAt base K mg (cnK K) (He.ga K "_law_used_right") ("_law_used_right" ++ ".<locals>." ++ "<lambda>") :=
  ⟨(TstX.tst c 27), TBs _ (List.mem_of_getElem? (i := 1) rfl), (of_decide_eq_true (TstX.tst c 28))⟩
theorem tb_law (c : tst.x.see K = tst.x.due) (TBs : ∀ p ∈ csK K, LamX.TabB base mg p.1 p.2) : TabAt base K mg (cnK K) (He.ga K "law") ("law" ++ ".<locals>." ++ "<lambda>") :=
  ⟨(TstX.tst c 29), TBs _ (List.mem_of_getElem? (i := 2) rfl), (of_decide_eq_true (TstX.tst c 30))⟩
theorem tb_Row_init (c : tst.x.see K = tst.x.due) (TBs : ∀ p ∈ csK K, LamX.TabB base mg p.1 p.2) : TabG' base K mg (cnK K) (atX K (He.ga K "Row") "__init__") := by
  have t := TBs _ (List.mem_of_getElem? (l := csK K) (i := 3) rfl)
  exact ⟨(TstX.tst c 31), ⟨t.code, t.bm, t.gP⟩, decide_eq_true (List.mem_of_getElem? (l := tgK K) (i := 0) rfl), (of_decide_eq_true (TstX.tst c 32))⟩
theorem all (X : K.In h) (G : h.Ns mainGlobals mg) (c : tst.x.see K = tst.x.due) (TBs : ∀ p ∈ csK K, LamX.TabB base mg p.1 p.2) :
    T_law PySem.Challenge.pw_lawseries_k70_errors_of_ghosts w K mg base (cnK K) := by
  have g := gs X G c
  have t_powers_in : T_powers_in PySem.Challenge.pw_lawseries_k70_errors_of_ghosts w K mg base (cnK K) := ⟨True.intro⟩
  have d_powers_in : Cal PySem.Challenge.pw_lawseries_k70_errors_of_ghosts w K mg base (cnK K) 2 "powers_in" m_powers_in := by
    obtain ⟨fd, F⟩ := TstX.def_ c 0
    exact ⟨_, R_powers_in rfl g t_powers_in F, (He.glo_ok X G (TstX.tst c 33)), F.kp⟩
  have t_divisors_in : T_divisors_in PySem.Challenge.pw_lawseries_k70_errors_of_ghosts w K mg base (cnK K) := ⟨d_powers_in⟩
  have t_moebius_in : T_moebius_in PySem.Challenge.pw_lawseries_k70_errors_of_ghosts w K mg base (cnK K) := ⟨d_powers_in⟩
  have d_divisors_in : Cal PySem.Challenge.pw_lawseries_k70_errors_of_ghosts w K mg base (cnK K) 4 "divisors_in" m_divisors_in := by
    obtain ⟨fd, F⟩ := TstX.def_ c 1
    exact ⟨_, R_divisors_in rfl g t_divisors_in F, (He.glo_ok X G (TstX.tst c 34)), F.kp⟩
  have d_moebius_in : Cal PySem.Challenge.pw_lawseries_k70_errors_of_ghosts w K mg base (cnK K) 4 "moebius_in" m_moebius_in := by
    obtain ⟨fd, F⟩ := TstX.def_ c 2
    exact ⟨_, R_moebius_in rfl g t_moebius_in F, (He.glo_ok X G (TstX.tst c 35)), F.kp⟩
  have t_test_total : T_test_total PySem.Challenge.pw_lawseries_k70_errors_of_ghosts w K mg base (cnK K) := ⟨d_divisors_in, d_moebius_in⟩
  have d_test_total : Cal PySem.Challenge.pw_lawseries_k70_errors_of_ghosts w K mg base (cnK K) 6 "test_total" m_test_total := by
    obtain ⟨fd, F⟩ := TstX.def_ c 3
    exact ⟨_, R_test_total rfl g t_test_total F, (He.glo_ok X G (TstX.tst c 36)), F.kp⟩
  have t_counts_in : T_counts_in PySem.Challenge.pw_lawseries_k70_errors_of_ghosts w K mg base (cnK K) := ⟨d_test_total⟩
  have ik : IskOk (cnK K) tkT := by
    refine ⟨fun n e => ?_⟩
    unfold tkT at e
    split at e
    · obtain ⟨q1, q2⟩ := iskB_ok (TstX.tst c 37)
      exact ⟨sclB_ok (TstX.tst c 38), q1, q2⟩
    · obtain ⟨q1, q2⟩ := iskB_ok (TstX.tst c 39)
      exact ⟨sclB_ok (TstX.tst c 40), q1, q2⟩
    · obtain ⟨q1, q2⟩ := iskB_ok (TstX.tst c 41)
      exact ⟨sclB_ok (TstX.tst c 42), q1, q2⟩
    · obtain ⟨q1, q2⟩ := iskB_ok (TstX.tst c 43)
      exact ⟨sclB_ok (TstX.tst c 44), q1, q2⟩
    · obtain ⟨q1, q2⟩ := iskB_ok (TstX.tst c 45)
      exact ⟨sclB_ok (TstX.tst c 46), q1, q2⟩
    · obtain ⟨q1, q2⟩ := iskB_ok (TstX.tst c 47)
      exact ⟨sclB_ok (TstX.tst c 48), q1, q2⟩
    · cases e
  have t_is_plain : T_is_plain PySem.Challenge.pw_lawseries_k70_errors_of_ghosts w K mg base (cnK K) := ⟨ik⟩
  have d_is_plain : Cal PySem.Challenge.pw_lawseries_k70_errors_of_ghosts w K mg base (cnK K) 2 "is_plain" m_is_plain := by
    obtain ⟨fd, F⟩ := TstX.def_ c 5
    exact ⟨_, R_is_plain rfl g t_is_plain F, (He.glo_ok X G (TstX.tst c 49)), F.kp⟩
  have t_is_short : T_is_short PySem.Challenge.pw_lawseries_k70_errors_of_ghosts w K mg base (cnK K) := ⟨d_is_plain⟩
  have d_is_short : Cal PySem.Challenge.pw_lawseries_k70_errors_of_ghosts w K mg base (cnK K) 4 "is_short" m_is_short := by
    obtain ⟨fd, F⟩ := TstX.def_ c 6
    exact ⟨_, R_is_short rfl g t_is_short F, (He.glo_ok X G (TstX.tst c 50)), F.kp⟩
  have t_are_numbers : T_are_numbers PySem.Challenge.pw_lawseries_k70_errors_of_ghosts w K mg base (cnK K) := ⟨d_is_short, ik⟩
  have d_are_numbers : Cal PySem.Challenge.pw_lawseries_k70_errors_of_ghosts w K mg base (cnK K) 6 "are_numbers" m_are_numbers := by
    obtain ⟨fd, F⟩ := TstX.def_ c 7
    exact ⟨_, R_are_numbers rfl g t_are_numbers F, (He.glo_ok X G (TstX.tst c 51)), F.kp⟩
  have r_InvalidGhosts : Xe0 K mg (cnK K) "InvalidGhosts" 11 := by
    exact ex0B_ok PySem.F.excBase_ValueError (He.glo_ok X G (TstX.tst c 52)) (TstX.tst c 53)
  have t_require_numbers : T_require_numbers PySem.Challenge.pw_lawseries_k70_errors_of_ghosts w K mg base (cnK K) := ⟨d_are_numbers, r_InvalidGhosts⟩
  have t_fault_in : T_fault_in PySem.Challenge.pw_lawseries_k70_errors_of_ghosts w K mg base (cnK K) := ⟨d_test_total⟩
  have d_fault_in : Cal PySem.Challenge.pw_lawseries_k70_errors_of_ghosts w K mg base (cnK K) 8 "fault_in" m_fault_in := by
    obtain ⟨fd, F⟩ := TstX.def_ c 9
    exact ⟨_, R_fault_in rfl g t_fault_in F, (He.glo_ok X G (TstX.tst c 54)), F.kp⟩
  have d_require_numbers : Cal PySem.Challenge.pw_lawseries_k70_errors_of_ghosts w K mg base (cnK K) 8 "require_numbers" m_require_numbers := by
    obtain ⟨fd, F⟩ := TstX.def_ c 8
    exact ⟨_, R_require_numbers rfl g t_require_numbers F, (He.glo_ok X G (TstX.tst c 55)), F.kp⟩
  have r_InvalidOperation : Xe0 K mg (cnK K) "InvalidOperation" 12 := by
    exact ex0B_ok PySem.F.excBase_ValueError (He.glo_ok X G (TstX.tst c 56)) (TstX.tst c 57)
  have t_require_ghosts : T_require_ghosts PySem.Challenge.pw_lawseries_k70_errors_of_ghosts w K mg base (cnK K) := ⟨d_fault_in, d_require_numbers, r_InvalidOperation⟩
  have d_counts_in : Cal PySem.Challenge.pw_lawseries_k70_errors_of_ghosts w K mg base (cnK K) 8 "counts_in" m_counts_in := by
    obtain ⟨fd, F⟩ := TstX.def_ c 4
    exact ⟨_, R_counts_in rfl g t_counts_in F, (He.glo_ok X G (TstX.tst c 58)), F.kp⟩
  have d_require_ghosts : Cal PySem.Challenge.pw_lawseries_k70_errors_of_ghosts w K mg base (cnK K) 10 "require_ghosts" m_require_ghosts := by
    obtain ⟨fd, F⟩ := TstX.def_ c 10
    exact ⟨_, R_require_ghosts rfl g t_require_ghosts F, (He.glo_ok X G (TstX.tst c 59)), F.kp⟩
  have t_counts_of : T_counts_of PySem.Challenge.pw_lawseries_k70_errors_of_ghosts w K mg base (cnK K) := ⟨d_counts_in, d_require_ghosts⟩
  have t_is_integer : T_is_integer PySem.Challenge.pw_lawseries_k70_errors_of_ghosts w K mg base (cnK K) := ⟨d_is_short⟩
  have d_is_integer : Cal PySem.Challenge.pw_lawseries_k70_errors_of_ghosts w K mg base (cnK K) 6 "is_integer" m_is_integer := by
    obtain ⟨fd, F⟩ := TstX.def_ c 12
    exact ⟨_, R_is_integer rfl g t_is_integer F, (He.glo_ok X G (TstX.tst c 60)), F.kp⟩
  have r_InvalidCount : Xe1 PySem.Challenge.pw_lawseries_k70_errors_of_ghosts K mg (cnK K) "InvalidCount" 14 := by
    exact ⟨(He.glo_ok X G (TstX.tst c 61)), (He.free_ok X G (TstX.tst c 62)), xin_ok (P := PySem.Challenge.pw_lawseries_k70_errors_of_ghosts) (qn := "InvalidCount.__init__") PySem.F.excBase_IndexError PySem.F.store_IndexError PySem.W.kxs_IndexError X_InvalidCount (TstX.tst c 63) (TstX.tst c 64) (TstX.defI c 83) (by decide +kernel)⟩
  have t_require_count : T_require_count PySem.Challenge.pw_lawseries_k70_errors_of_ghosts w K mg base (cnK K) := ⟨d_is_integer, r_InvalidCount⟩
  have t_is_prime : T_is_prime PySem.Challenge.pw_lawseries_k70_errors_of_ghosts w K mg base (cnK K) := ⟨d_is_plain, d_powers_in⟩
  have d_is_prime : Cal PySem.Challenge.pw_lawseries_k70_errors_of_ghosts w K mg base (cnK K) 4 "is_prime" m_is_prime := by
    obtain ⟨fd, F⟩ := TstX.def_ c 14
    exact ⟨_, R_is_prime rfl g t_is_prime F, (He.glo_ok X G (TstX.tst c 65)), F.kp⟩
  have r_InvalidPrime : Xe0 K mg (cnK K) "InvalidPrime" 10 := by
    exact ex0B_ok PySem.F.excBase_ValueError (He.glo_ok X G (TstX.tst c 66)) (TstX.tst c 67)
  have t_require_prime : T_require_prime PySem.Challenge.pw_lawseries_k70_errors_of_ghosts w K mg base (cnK K) := ⟨d_is_prime, r_InvalidPrime⟩
  have t_line_of : T_line_of PySem.Challenge.pw_lawseries_k70_errors_of_ghosts w K mg base (cnK K) := ⟨True.intro⟩
  have d_line_of : Cal PySem.Challenge.pw_lawseries_k70_errors_of_ghosts w K mg base (cnK K) 2 "line_of" m_line_of := by
    obtain ⟨fd, F⟩ := TstX.def_ c 16
    exact ⟨_, R_line_of rfl g t_line_of F, (He.glo_ok X G (TstX.tst c 68)), F.kp⟩
  have t_line_of_pairs : T_line_of_pairs PySem.Challenge.pw_lawseries_k70_errors_of_ghosts w K mg base (cnK K) := ⟨d_line_of⟩
  have d_line_of_pairs : Cal PySem.Challenge.pw_lawseries_k70_errors_of_ghosts w K mg base (cnK K) 4 "line_of_pairs" m_line_of_pairs := by
    obtain ⟨fd, F⟩ := TstX.def_ c 17
    exact ⟨_, R_line_of_pairs rfl g t_line_of_pairs F, (He.glo_ok X G (TstX.tst c 69)), F.kp⟩
  have t_line_exp : T_line_exp PySem.Challenge.pw_lawseries_k70_errors_of_ghosts w K mg base (cnK K) := ⟨d_line_of_pairs⟩
  have a_own_line : AttrOk (cnK K) "own_line" ta_own_line := by
    intro n i e
    unfold ta_own_line at e
    split at e
    · cases e
      exact ⟨sclB_ok (TstX.tst c 42), _, slB_ok (TstX.tst c 70)⟩
    · cases e
  have t_Made_init : T_Made_init PySem.Challenge.pw_lawseries_k70_errors_of_ghosts w K mg base (cnK K) := ⟨a_own_line⟩
  have a_own_bottom : AttrOk (cnK K) "own_bottom" ta_own_bottom := by
    intro n i e
    unfold ta_own_bottom at e
    split at e
    · cases e
      exact ⟨sclB_ok (TstX.tst c 38), _, slB_ok (TstX.tst c 71)⟩
    · cases e
      exact ⟨sclB_ok (TstX.tst c 40), _, slB_ok (TstX.tst c 72)⟩
    · cases e
      exact ⟨sclB_ok (TstX.tst c 44), _, slB_ok (TstX.tst c 73)⟩
    · cases e
  have a_own_top : AttrOk (cnK K) "own_top" ta_own_top := by
    intro n i e
    unfold ta_own_top at e
    split at e
    · cases e
      exact ⟨sclB_ok (TstX.tst c 38), _, slB_ok (TstX.tst c 74)⟩
    · cases e
      exact ⟨sclB_ok (TstX.tst c 40), _, slB_ok (TstX.tst c 75)⟩
    · cases e
  have t_Terms_init : T_Terms_init PySem.Challenge.pw_lawseries_k70_errors_of_ghosts w K mg base (cnK K) := ⟨a_own_bottom, a_own_top⟩
  have k_Terms : Mkr PySem.Challenge.pw_lawseries_k70_errors_of_ghosts w K mg base (cnK K) 2 "Terms" 0 i_Terms := by
    obtain ⟨fd, F⟩ := TstX.def_ c 20
    exact ⟨_, mkB_ok (TstX.tst c 76), R_Terms_init rfl g t_Terms_init F, (He.glo_ok X G (TstX.tst c 77))⟩
  have t_terms_of : T_terms_of PySem.Challenge.pw_lawseries_k70_errors_of_ghosts w K mg base (cnK K) := ⟨k_Terms⟩
  have d_terms_of : Cal PySem.Challenge.pw_lawseries_k70_errors_of_ghosts w K mg base (cnK K) 4 "terms_of" m_terms_of := by
    obtain ⟨fd, F⟩ := TstX.def_ c 21
    exact ⟨_, R_terms_of rfl g t_terms_of F, (He.glo_ok X G (TstX.tst c 78)), F.kp⟩
  have j_Terms : ∃ C, mg "Terms" = some (.ref C) ∧ IsiOk (cnK K) C tj_Terms := by
    refine ⟨(He.ga K "Terms"), (He.glo_ok X G (TstX.tst c 77)), fun n b e => ?_, ikB_ok (TstX.tst c 79)⟩
    unfold tj_Terms at e
    split at e
    · cases e
      obtain ⟨q1, q2⟩ := isB_ok ((TstX.tst c 80) : isB K (He.ga K "Terms") (He.ga K "Terms") true = true)
      exact ⟨sclB_ok (TstX.tst c 38), q1, q2⟩
    · cases e
      obtain ⟨q1, q2⟩ := isB_ok ((TstX.tst c 81) : isB K (He.ga K "Ratio") (He.ga K "Terms") false = true)
      exact ⟨sclB_ok (TstX.tst c 40), q1, q2⟩
    · cases e
      obtain ⟨q1, q2⟩ := isB_ok ((TstX.tst c 82) : isB K (He.ga K "Made") (He.ga K "Terms") false = true)
      exact ⟨sclB_ok (TstX.tst c 42), q1, q2⟩
    · cases e
      obtain ⟨q1, q2⟩ := isB_ok ((TstX.tst c 83) : isB K (He.ga K "Row") (He.ga K "Terms") false = true)
      exact ⟨sclB_ok (TstX.tst c 44), q1, q2⟩
    · cases e
      obtain ⟨q1, q2⟩ := isB_ok ((TstX.tst c 84) : isB K (He.ga K "Told") (He.ga K "Terms") false = true)
      exact ⟨sclB_ok (TstX.tst c 46), q1, q2⟩
    · cases e
      obtain ⟨q1, q2⟩ := isB_ok ((TstX.tst c 85) : isB K (He.ga K "Witt") (He.ga K "Terms") false = true)
      exact ⟨sclB_ok (TstX.tst c 48), q1, q2⟩
    · cases e
  have t_told_terms : T_told_terms PySem.Challenge.pw_lawseries_k70_errors_of_ghosts w K mg base (cnK K) := ⟨d_is_short, d_terms_of, j_Terms, r_InvalidCount⟩
  have d_told_terms : Cal PySem.Challenge.pw_lawseries_k70_errors_of_ghosts w K mg base (cnK K) 6 "told_terms" m_told_terms := by
    obtain ⟨fd, F⟩ := TstX.def_ c 22
    exact ⟨_, R_told_terms rfl g t_told_terms F, (He.glo_ok X G (TstX.tst c 86)), F.kp⟩
  have t_Ratio_init : T_Ratio_init PySem.Challenge.pw_lawseries_k70_errors_of_ghosts w K mg base (cnK K) := ⟨d_told_terms, a_own_bottom, a_own_top⟩
  have K_Ratio : Mkr PySem.Challenge.pw_lawseries_k70_errors_of_ghosts w K mg base (cnK K) 8 "Ratio" 1 (dfl i_Ratio (.int (1))) := by
    obtain ⟨fd, F⟩ := TstX.def_ c 23
    exact ⟨_, mkB_ok (TstX.tst c 87), D_Ratio_init rfl g t_Ratio_init F, (He.glo_ok X G (TstX.tst c 88))⟩
  have t_ratio_of : T_ratio_of PySem.Challenge.pw_lawseries_k70_errors_of_ghosts w K mg base (cnK K) := ⟨d_terms_of, K_Ratio⟩
  have r_InvalidModulus : Xe0 K mg (cnK K) "InvalidModulus" 8 := by
    exact ex0B_ok PySem.F.excBase_ValueError (He.glo_ok X G (TstX.tst c 89)) (TstX.tst c 90)
  have t_require_modulus : T_require_modulus PySem.Challenge.pw_lawseries_k70_errors_of_ghosts w K mg base (cnK K) := ⟨d_is_integer, r_InvalidModulus⟩
  have j_Ratio : ∃ C, mg "Ratio" = some (.ref C) ∧ IsiOk (cnK K) C tj_Ratio := by
    refine ⟨(He.ga K "Ratio"), (He.glo_ok X G (TstX.tst c 88)), fun n b e => ?_, ikB_ok (TstX.tst c 91)⟩
    unfold tj_Ratio at e
    split at e
    · cases e
      obtain ⟨q1, q2⟩ := isB_ok ((TstX.tst c 92) : isB K (He.ga K "Terms") (He.ga K "Ratio") false = true)
      exact ⟨sclB_ok (TstX.tst c 38), q1, q2⟩
    · cases e
      obtain ⟨q1, q2⟩ := isB_ok ((TstX.tst c 93) : isB K (He.ga K "Ratio") (He.ga K "Ratio") true = true)
      exact ⟨sclB_ok (TstX.tst c 40), q1, q2⟩
    · cases e
      obtain ⟨q1, q2⟩ := isB_ok ((TstX.tst c 94) : isB K (He.ga K "Made") (He.ga K "Ratio") false = true)
      exact ⟨sclB_ok (TstX.tst c 42), q1, q2⟩
    · cases e
      obtain ⟨q1, q2⟩ := isB_ok ((TstX.tst c 95) : isB K (He.ga K "Row") (He.ga K "Ratio") false = true)
      exact ⟨sclB_ok (TstX.tst c 44), q1, q2⟩
    · cases e
      obtain ⟨q1, q2⟩ := isB_ok ((TstX.tst c 96) : isB K (He.ga K "Told") (He.ga K "Ratio") false = true)
      exact ⟨sclB_ok (TstX.tst c 46), q1, q2⟩
    · cases e
      obtain ⟨q1, q2⟩ := isB_ok ((TstX.tst c 97) : isB K (He.ga K "Witt") (He.ga K "Ratio") false = true)
      exact ⟨sclB_ok (TstX.tst c 48), q1, q2⟩
    · cases e
  have t_is_number : T_is_number PySem.Challenge.pw_lawseries_k70_errors_of_ghosts w K mg base (cnK K) := ⟨d_is_integer, j_Ratio⟩
  have t_number_pair : T_number_pair PySem.Challenge.pw_lawseries_k70_errors_of_ghosts w K mg base (cnK K) := ⟨j_Ratio, a_own_bottom, a_own_top⟩
  have t_is_number_of : T_is_number_of PySem.Challenge.pw_lawseries_k70_errors_of_ghosts w K mg base (cnK K) := ⟨d_is_integer, j_Ratio⟩
  have d_is_number : Cal PySem.Challenge.pw_lawseries_k70_errors_of_ghosts w K mg base (cnK K) 8 "is_number" m_is_number := by
    obtain ⟨fd, F⟩ := TstX.def_ c 26
    exact ⟨_, R_is_number rfl g t_is_number F, (He.glo_ok X G (TstX.tst c 98)), F.kp⟩
  have d_is_number_of : Cal PySem.Challenge.pw_lawseries_k70_errors_of_ghosts w K mg base (cnK K) 8 "is_number_of" m_is_number_of := by
    obtain ⟨fd, F⟩ := TstX.def_ c 28
    exact ⟨_, R_is_number_of rfl g t_is_number_of F, (He.glo_ok X G (TstX.tst c 99)), F.kp⟩
  have d_number_pair : Cal PySem.Challenge.pw_lawseries_k70_errors_of_ghosts w K mg base (cnK K) 2 "number_pair" m_number_pair := by
    obtain ⟨fd, F⟩ := TstX.def_ c 27
    exact ⟨_, R_number_pair rfl g t_number_pair F, (He.glo_ok X G (TstX.tst c 100)), F.kp⟩
  have d_require_modulus : Cal PySem.Challenge.pw_lawseries_k70_errors_of_ghosts w K mg base (cnK K) 8 "require_modulus" m_require_modulus := by
    obtain ⟨fd, F⟩ := TstX.def_ c 25
    exact ⟨_, R_require_modulus rfl g t_require_modulus F, (He.glo_ok X G (TstX.tst c 101)), F.kp⟩
  have j_Made : ∃ C, mg "Made" = some (.ref C) ∧ IsiOk (cnK K) C tj_Made := by
    refine ⟨(He.ga K "Made"), (He.glo_ok X G (TstX.tst c 102)), fun n b e => ?_, ikB_ok (TstX.tst c 103)⟩
    unfold tj_Made at e
    split at e
    · cases e
      obtain ⟨q1, q2⟩ := isB_ok ((TstX.tst c 104) : isB K (He.ga K "Terms") (He.ga K "Made") false = true)
      exact ⟨sclB_ok (TstX.tst c 38), q1, q2⟩
    · cases e
      obtain ⟨q1, q2⟩ := isB_ok ((TstX.tst c 105) : isB K (He.ga K "Ratio") (He.ga K "Made") false = true)
      exact ⟨sclB_ok (TstX.tst c 40), q1, q2⟩
    · cases e
      obtain ⟨q1, q2⟩ := isB_ok ((TstX.tst c 106) : isB K (He.ga K "Made") (He.ga K "Made") true = true)
      exact ⟨sclB_ok (TstX.tst c 42), q1, q2⟩
    · cases e
      obtain ⟨q1, q2⟩ := isB_ok ((TstX.tst c 107) : isB K (He.ga K "Row") (He.ga K "Made") false = true)
      exact ⟨sclB_ok (TstX.tst c 44), q1, q2⟩
    · cases e
      obtain ⟨q1, q2⟩ := isB_ok ((TstX.tst c 108) : isB K (He.ga K "Told") (He.ga K "Made") false = true)
      exact ⟨sclB_ok (TstX.tst c 46), q1, q2⟩
    · cases e
      obtain ⟨q1, q2⟩ := isB_ok ((TstX.tst c 109) : isB K (He.ga K "Witt") (He.ga K "Made") false = true)
      exact ⟨sclB_ok (TstX.tst c 48), q1, q2⟩
    · cases e
  have r_InvalidRow : Xe0 K mg (cnK K) "InvalidRow" 9 := by
    exact ex0B_ok PySem.F.excBase_ValueError (He.glo_ok X G (TstX.tst c 110)) (TstX.tst c 111)
  have t_line_told : T_line_told PySem.Challenge.pw_lawseries_k70_errors_of_ghosts w K mg base (cnK K) := ⟨d_is_number, d_is_number_of, d_line_of, d_line_of_pairs, d_number_pair, d_require_modulus, ik, j_Made, r_InvalidRow, a_own_line⟩
  have d_line_told : Cal PySem.Challenge.pw_lawseries_k70_errors_of_ghosts w K mg base (cnK K) 10 "line_told" m_line_told := by
    obtain ⟨fd, F⟩ := TstX.def_ c 29
    exact ⟨_, R_line_told rfl g t_line_told F, (He.glo_ok X G (TstX.tst c 112)), F.kp⟩
  have d_ratio_of : Cal PySem.Challenge.pw_lawseries_k70_errors_of_ghosts w K mg base (cnK K) 10 "ratio_of" m_ratio_of := by
    obtain ⟨fd, F⟩ := TstX.def_ c 24
    exact ⟨_, R_ratio_of rfl g t_ratio_of F, (He.glo_ok X G (TstX.tst c 113)), F.kp⟩
  have a_own_entries : AttrOk (cnK K) "own_entries" ta_own_entries := by
    intro n i e
    unfold ta_own_entries at e
    split at e
    · cases e
      exact ⟨sclB_ok (TstX.tst c 44), _, slB_ok (TstX.tst c 114)⟩
    · cases e
  have a_own_modulus : AttrOk (cnK K) "own_modulus" ta_own_modulus := by
    intro n i e
    unfold ta_own_modulus at e
    split at e
    · cases e
      exact ⟨sclB_ok (TstX.tst c 44), _, slB_ok (TstX.tst c 115)⟩
    · cases e
  have a_own_order : AttrOk (cnK K) "own_order" ta_own_order := by
    intro n i e
    unfold ta_own_order at e
    split at e
    · cases e
      exact ⟨sclB_ok (TstX.tst c 44), _, slB_ok (TstX.tst c 116)⟩
    · cases e
  have a_own_tops : AttrOk (cnK K) "own_tops" ta_own_tops := by
    intro n i e
    unfold ta_own_tops at e
    split at e
    · cases e
      exact ⟨sclB_ok (TstX.tst c 44), _, slB_ok (TstX.tst c 117)⟩
    · cases e
  have t_Row_init : T_Row_init PySem.Challenge.pw_lawseries_k70_errors_of_ghosts w K mg base (cnK K) := ⟨d_line_told, d_ratio_of, a_own_bottom, a_own_entries, a_own_modulus, a_own_order, a_own_tops⟩
  have w_Row : MkrK PySem.Challenge.pw_lawseries_k70_errors_of_ghosts w K mg base (cnK K) 12 "Row" 1 ["modulus"] 3 i_Row := by
    obtain ⟨fd, F⟩ := TstX.def_ c 30
    exact ⟨_, mkB_ok (TstX.tst c 118), W_Row_init rfl g t_Row_init (tb_Row_init c TBs) F, (He.glo_ok X G (TstX.tst c 119))⟩
  have k_Made : Mkr PySem.Challenge.pw_lawseries_k70_errors_of_ghosts w K mg base (cnK K) 2 "Made" 2 i_Made := by
    obtain ⟨fd, F⟩ := TstX.def_ c 19
    exact ⟨_, mkB_ok (TstX.tst c 120), R_Made_init rfl g t_Made_init F, (He.glo_ok X G (TstX.tst c 102))⟩
  have t_row_with : T_row_with PySem.Challenge.pw_lawseries_k70_errors_of_ghosts w K mg base (cnK K) := ⟨d_line_of, w_Row, k_Made⟩
  have d_line_exp : Cal PySem.Challenge.pw_lawseries_k70_errors_of_ghosts w K mg base (cnK K) 6 "line_exp" m_line_exp := by
    obtain ⟨fd, F⟩ := TstX.def_ c 18
    exact ⟨_, R_line_exp rfl g t_line_exp F, (He.glo_ok X G (TstX.tst c 121)), F.kp⟩
  have d_row_with : Cal PySem.Challenge.pw_lawseries_k70_errors_of_ghosts w K mg base (cnK K) 14 "row_with" m_row_with := by
    obtain ⟨fd, F⟩ := TstX.def_ c 31
    exact ⟨_, R_row_with rfl g t_row_with F, (He.glo_ok X G (TstX.tst c 122)), F.kp⟩
  have D_row_with : Cal PySem.Challenge.pw_lawseries_k70_errors_of_ghosts w K mg base (cnK K) 14 "row_with" (dfl m_row_with (.bl true)) := by
    obtain ⟨fd, F⟩ := TstX.def_ c 31
    exact ⟨_, D_row_with rfl g t_row_with F, (He.glo_ok X G (TstX.tst c 122)), F.kp⟩
  have t_row_in : T_row_in PySem.Challenge.pw_lawseries_k70_errors_of_ghosts w K mg base (cnK K) := ⟨d_line_exp, d_line_of_pairs, d_row_with, D_row_with⟩
  have d_require_count : Cal PySem.Challenge.pw_lawseries_k70_errors_of_ghosts w K mg base (cnK K) 8 "require_count" m_require_count := by
    obtain ⟨fd, F⟩ := TstX.def_ c 13
    exact ⟨_, R_require_count rfl g t_require_count F, (He.glo_ok X G (TstX.tst c 123)), F.kp⟩
  have d_require_prime : Cal PySem.Challenge.pw_lawseries_k70_errors_of_ghosts w K mg base (cnK K) 6 "require_prime" m_require_prime := by
    obtain ⟨fd, F⟩ := TstX.def_ c 15
    exact ⟨_, R_require_prime rfl g t_require_prime F, (He.glo_ok X G (TstX.tst c 124)), F.kp⟩
  have d_row_in : Cal PySem.Challenge.pw_lawseries_k70_errors_of_ghosts w K mg base (cnK K) 16 "row_in" m_row_in := by
    obtain ⟨fd, F⟩ := TstX.def_ c 32
    exact ⟨_, R_row_in rfl g t_row_in F, (He.glo_ok X G (TstX.tst c 125)), F.kp⟩
  have t_artin_row : T_artin_row PySem.Challenge.pw_lawseries_k70_errors_of_ghosts w K mg base (cnK K) := ⟨d_require_count, d_require_prime, d_row_in⟩
  have t__law_dice : T__law_dice PySem.Challenge.pw_lawseries_k70_errors_of_ghosts w K mg base (cnK K) := ⟨True.intro⟩
  have n_InvalidCount : mg "InvalidCount" = some (.ref ((cnK K).cA 14)) := by
    exact (He.glo_ok X G (TstX.tst c 61))
  have n_InvalidGhosts : mg "InvalidGhosts" = some (.ref ((cnK K).cA 11)) := by
    exact (He.glo_ok X G (TstX.tst c 52))
  have n_InvalidModulus : mg "InvalidModulus" = some (.ref ((cnK K).cA 8)) := by
    exact (He.glo_ok X G (TstX.tst c 89))
  have n_InvalidOperation : mg "InvalidOperation" = some (.ref ((cnK K).cA 12)) := by
    exact (He.glo_ok X G (TstX.tst c 56))
  have n_InvalidPrime : mg "InvalidPrime" = some (.ref ((cnK K).cA 10)) := by
    exact (He.glo_ok X G (TstX.tst c 66))
  have n_InvalidRow : mg "InvalidRow" = some (.ref ((cnK K).cA 9)) := by
    exact (He.glo_ok X G (TstX.tst c 110))
  have xf_value : XfOk (cnK K) "value" xfT_value := by
    refine ⟨fun n e => ?_⟩
    unfold xfT_value at e
    split at e
    · exact ⟨xfB_ok (TstX.tst c 126), (of_decide_eq_true (TstX.tst c 127)), rfl⟩
    · cases e
  have xm : ExmOk (cnK K) xmT := by
    intro n m b e
    unfold xmT at e
    split at e
    · cases e
      exact (of_decide_eq_true (TstX.tst c 128))
    · cases e
      exact (of_decide_eq_true (TstX.tst c 129))
    · cases e
      exact (of_decide_eq_true (TstX.tst c 130))
    · cases e
      exact (of_decide_eq_true (TstX.tst c 131))
    · cases e
      exact (of_decide_eq_true (TstX.tst c 132))
    · cases e
      exact (of_decide_eq_true (TstX.tst c 133))
    · cases e
      exact (of_decide_eq_true (TstX.tst c 134))
    · cases e
      exact (of_decide_eq_true (TstX.tst c 135))
    · cases e
      exact (of_decide_eq_true (TstX.tst c 136))
    · cases e
      exact (of_decide_eq_true (TstX.tst c 137))
    · cases e
      exact (of_decide_eq_true (TstX.tst c 138))
    · cases e
      exact (of_decide_eq_true (TstX.tst c 139))
    · cases e
      exact (of_decide_eq_true (TstX.tst c 140))
    · cases e
      exact (of_decide_eq_true (TstX.tst c 141))
    · cases e
      exact (of_decide_eq_true (TstX.tst c 142))
    · cases e
      exact (of_decide_eq_true (TstX.tst c 143))
    · cases e
      exact (of_decide_eq_true (TstX.tst c 144))
    · cases e
      exact (of_decide_eq_true (TstX.tst c 145))
    · cases e
      exact (of_decide_eq_true (TstX.tst c 146))
    · cases e
      exact (of_decide_eq_true (TstX.tst c 147))
    · cases e
      exact (of_decide_eq_true (TstX.tst c 148))
    · cases e
      exact (of_decide_eq_true (TstX.tst c 149))
    · cases e
      exact (of_decide_eq_true (TstX.tst c 150))
    · cases e
      exact (of_decide_eq_true (TstX.tst c 151))
    · cases e
      exact (of_decide_eq_true (TstX.tst c 152))
    · cases e
      exact (of_decide_eq_true (TstX.tst c 153))
    · cases e
      exact (of_decide_eq_true (TstX.tst c 154))
    · cases e
      exact (of_decide_eq_true (TstX.tst c 155))
    · cases e
      exact (of_decide_eq_true (TstX.tst c 156))
    · cases e
      exact (of_decide_eq_true (TstX.tst c 157))
    · cases e
      exact (of_decide_eq_true (TstX.tst c 158))
    · cases e
      exact (of_decide_eq_true (TstX.tst c 159))
    · cases e
      exact (of_decide_eq_true (TstX.tst c 160))
    · cases e
      exact (of_decide_eq_true (TstX.tst c 161))
    · cases e
      exact (of_decide_eq_true (TstX.tst c 162))
    · cases e
      exact (of_decide_eq_true (TstX.tst c 163))
    · cases e
      exact (of_decide_eq_true (TstX.tst c 164))
    · cases e
      exact (of_decide_eq_true (TstX.tst c 165))
    · cases e
      exact (of_decide_eq_true (TstX.tst c 166))
    · cases e
      exact (of_decide_eq_true (TstX.tst c 167))
    · cases e
      exact (of_decide_eq_true (TstX.tst c 168))
    · cases e
      exact (of_decide_eq_true (TstX.tst c 169))
    · cases e
  have t__law_met : T__law_met PySem.Challenge.pw_lawseries_k70_errors_of_ghosts w K mg base (cnK K) := ⟨n_InvalidCount, n_InvalidGhosts, n_InvalidModulus, n_InvalidOperation, n_InvalidPrime, n_InvalidRow, xf_value, xm⟩
  have t_ghost_fault : T_ghost_fault PySem.Challenge.pw_lawseries_k70_errors_of_ghosts w K mg base (cnK K) := ⟨d_fault_in, d_require_numbers⟩
  have t_ghost_row : T_ghost_row PySem.Challenge.pw_lawseries_k70_errors_of_ghosts w K mg base (cnK K) := ⟨d_require_numbers, d_row_in⟩
  have t__law_roll : T__law_roll PySem.Challenge.pw_lawseries_k70_errors_of_ghosts w K mg base (cnK K) := ⟨True.intro⟩
  have d__law_roll : Cal PySem.Challenge.pw_lawseries_k70_errors_of_ghosts w K mg base (cnK K) 2 "_law_roll" m__law_roll := by
    obtain ⟨fd, F⟩ := TstX.def_ c 38
    exact ⟨_, R__law_roll rfl g t__law_roll F, (He.glo_ok X G (TstX.tst c 170)), F.kp⟩
  have t__law_pick : T__law_pick PySem.Challenge.pw_lawseries_k70_errors_of_ghosts w K mg base (cnK K) := ⟨d__law_roll⟩
  have t_Ratio___eq__ : T_Ratio___eq__ PySem.Challenge.pw_lawseries_k70_errors_of_ghosts w K mg base (cnK K) := ⟨j_Ratio, a_own_bottom, a_own_top⟩
  have j_Row : ∃ C, mg "Row" = some (.ref C) ∧ IsiOk (cnK K) C tj_Row := by
    refine ⟨(He.ga K "Row"), (He.glo_ok X G (TstX.tst c 119)), fun n b e => ?_, ikB_ok (TstX.tst c 171)⟩
    unfold tj_Row at e
    split at e
    · cases e
      obtain ⟨q1, q2⟩ := isB_ok ((TstX.tst c 172) : isB K (He.ga K "Terms") (He.ga K "Row") false = true)
      exact ⟨sclB_ok (TstX.tst c 38), q1, q2⟩
    · cases e
      obtain ⟨q1, q2⟩ := isB_ok ((TstX.tst c 173) : isB K (He.ga K "Ratio") (He.ga K "Row") false = true)
      exact ⟨sclB_ok (TstX.tst c 40), q1, q2⟩
    · cases e
      obtain ⟨q1, q2⟩ := isB_ok ((TstX.tst c 174) : isB K (He.ga K "Made") (He.ga K "Row") false = true)
      exact ⟨sclB_ok (TstX.tst c 42), q1, q2⟩
    · cases e
      obtain ⟨q1, q2⟩ := isB_ok ((TstX.tst c 175) : isB K (He.ga K "Row") (He.ga K "Row") true = true)
      exact ⟨sclB_ok (TstX.tst c 44), q1, q2⟩
    · cases e
      obtain ⟨q1, q2⟩ := isB_ok ((TstX.tst c 176) : isB K (He.ga K "Told") (He.ga K "Row") false = true)
      exact ⟨sclB_ok (TstX.tst c 46), q1, q2⟩
    · cases e
      obtain ⟨q1, q2⟩ := isB_ok ((TstX.tst c 177) : isB K (He.ga K "Witt") (He.ga K "Row") false = true)
      exact ⟨sclB_ok (TstX.tst c 48), q1, q2⟩
    · cases e
  have t_Row___eq__ : T_Row___eq__ PySem.Challenge.pw_lawseries_k70_errors_of_ghosts w K mg base (cnK K) := ⟨j_Row, a_own_bottom, a_own_modulus, a_own_tops⟩
  have t_power_of : T_power_of PySem.Challenge.pw_lawseries_k70_errors_of_ghosts w K mg base (cnK K) := ⟨True.intro⟩
  have d_power_of : Cal PySem.Challenge.pw_lawseries_k70_errors_of_ghosts w K mg base (cnK K) 2 "power_of" m_power_of := by
    obtain ⟨fd, F⟩ := TstX.def_ c 42
    exact ⟨_, R_power_of rfl g t_power_of F, (He.glo_ok X G (TstX.tst c 178)), F.kp⟩
  have t_coordinate_total : T_coordinate_total PySem.Challenge.pw_lawseries_k70_errors_of_ghosts w K mg base (cnK K) := ⟨d_power_of⟩
  have d_coordinate_total : Cal PySem.Challenge.pw_lawseries_k70_errors_of_ghosts w K mg base (cnK K) 4 "coordinate_total" m_coordinate_total := by
    obtain ⟨fd, F⟩ := TstX.def_ c 43
    exact ⟨_, R_coordinate_total rfl g t_coordinate_total F, (He.glo_ok X G (TstX.tst c 179)), F.kp⟩
  have t_ghosts_in : T_ghosts_in PySem.Challenge.pw_lawseries_k70_errors_of_ghosts w K mg base (cnK K) := ⟨d_coordinate_total, d_divisors_in⟩
  have j_Told : ∃ C, mg "Told" = some (.ref C) ∧ IsiOk (cnK K) C tj_Told := by
    refine ⟨(He.ga K "Told"), (He.glo_ok X G (TstX.tst c 180)), fun n b e => ?_, ikB_ok (TstX.tst c 181)⟩
    unfold tj_Told at e
    split at e
    · cases e
      obtain ⟨q1, q2⟩ := isB_ok ((TstX.tst c 182) : isB K (He.ga K "Terms") (He.ga K "Told") false = true)
      exact ⟨sclB_ok (TstX.tst c 38), q1, q2⟩
    · cases e
      obtain ⟨q1, q2⟩ := isB_ok ((TstX.tst c 183) : isB K (He.ga K "Ratio") (He.ga K "Told") false = true)
      exact ⟨sclB_ok (TstX.tst c 40), q1, q2⟩
    · cases e
      obtain ⟨q1, q2⟩ := isB_ok ((TstX.tst c 184) : isB K (He.ga K "Made") (He.ga K "Told") false = true)
      exact ⟨sclB_ok (TstX.tst c 42), q1, q2⟩
    · cases e
      obtain ⟨q1, q2⟩ := isB_ok ((TstX.tst c 185) : isB K (He.ga K "Row") (He.ga K "Told") false = true)
      exact ⟨sclB_ok (TstX.tst c 44), q1, q2⟩
    · cases e
      obtain ⟨q1, q2⟩ := isB_ok ((TstX.tst c 186) : isB K (He.ga K "Told") (He.ga K "Told") true = true)
      exact ⟨sclB_ok (TstX.tst c 46), q1, q2⟩
    · cases e
      obtain ⟨q1, q2⟩ := isB_ok ((TstX.tst c 187) : isB K (He.ga K "Witt") (He.ga K "Told") false = true)
      exact ⟨sclB_ok (TstX.tst c 48), q1, q2⟩
    · cases e
  have a_own_numbers : AttrOk (cnK K) "own_numbers" ta_own_numbers := by
    intro n i e
    unfold ta_own_numbers at e
    split at e
    · cases e
      exact ⟨sclB_ok (TstX.tst c 46), _, slB_ok (TstX.tst c 188)⟩
    · cases e
  have t_told_coordinates : T_told_coordinates PySem.Challenge.pw_lawseries_k70_errors_of_ghosts w K mg base (cnK K) := ⟨d_require_numbers, j_Told, a_own_numbers⟩
  have d_ghosts_in : Cal PySem.Challenge.pw_lawseries_k70_errors_of_ghosts w K mg base (cnK K) 6 "ghosts_in" m_ghosts_in := by
    obtain ⟨fd, F⟩ := TstX.def_ c 44
    exact ⟨_, R_ghosts_in rfl g t_ghosts_in F, (He.glo_ok X G (TstX.tst c 189)), F.kp⟩
  have d_told_coordinates : Cal PySem.Challenge.pw_lawseries_k70_errors_of_ghosts w K mg base (cnK K) 10 "told_coordinates" m_told_coordinates := by
    obtain ⟨fd, F⟩ := TstX.def_ c 45
    exact ⟨_, R_told_coordinates rfl g t_told_coordinates F, (He.glo_ok X G (TstX.tst c 190)), F.kp⟩
  have a_own_coordinates : AttrOk (cnK K) "own_coordinates" ta_own_coordinates := by
    intro n i e
    unfold ta_own_coordinates at e
    split at e
    · cases e
      exact ⟨sclB_ok (TstX.tst c 48), _, slB_ok (TstX.tst c 191)⟩
    · cases e
  have a_own_counts : AttrOk (cnK K) "own_counts" ta_own_counts := by
    intro n i e
    unfold ta_own_counts at e
    split at e
    · cases e
      exact ⟨sclB_ok (TstX.tst c 48), _, slB_ok (TstX.tst c 192)⟩
    · cases e
  have a_own_ghosts : AttrOk (cnK K) "own_ghosts" ta_own_ghosts := by
    intro n i e
    unfold ta_own_ghosts at e
    split at e
    · cases e
      exact ⟨sclB_ok (TstX.tst c 48), _, slB_ok (TstX.tst c 193)⟩
    · cases e
  have t_Witt_init : T_Witt_init PySem.Challenge.pw_lawseries_k70_errors_of_ghosts w K mg base (cnK K) := ⟨d_counts_in, d_ghosts_in, d_told_coordinates, a_own_coordinates, a_own_counts, a_own_ghosts⟩
  have t_require_integer : T_require_integer PySem.Challenge.pw_lawseries_k70_errors_of_ghosts w K mg base (cnK K) := ⟨d_is_integer, r_InvalidCount⟩
  have d_require_integer : Cal PySem.Challenge.pw_lawseries_k70_errors_of_ghosts w K mg base (cnK K) 8 "require_integer" m_require_integer := by
    obtain ⟨fd, F⟩ := TstX.def_ c 47
    exact ⟨_, R_require_integer rfl g t_require_integer F, (He.glo_ok X G (TstX.tst c 194)), F.kp⟩
  have mk_Witt_0 : MkrC PySem.Challenge.pw_lawseries_k70_errors_of_ghosts w K mg base (cnK K) 12 1 [] 5 i_Witt := by
    obtain ⟨fd, F⟩ := TstX.def_ c 46
    exact ⟨rfl, _, mkB_ok (TstX.tst c 195), (R_Witt_init (cn := cnK K) rfl g t_Witt_init F).toK⟩
  have t_Witt_single : T_Witt_single PySem.Challenge.pw_lawseries_k70_errors_of_ghosts w K mg base (cnK K) := ⟨d_require_count, d_require_integer, mk_Witt_0⟩
  have t_coordinates_in : T_coordinates_in PySem.Challenge.pw_lawseries_k70_errors_of_ghosts w K mg base (cnK K) := ⟨d_coordinate_total, d_divisors_in⟩
  have t_Told_init : T_Told_init PySem.Challenge.pw_lawseries_k70_errors_of_ghosts w K mg base (cnK K) := ⟨a_own_numbers⟩
  have d_coordinates_in : Cal PySem.Challenge.pw_lawseries_k70_errors_of_ghosts w K mg base (cnK K) 6 "coordinates_in" m_coordinates_in := by
    obtain ⟨fd, F⟩ := TstX.def_ c 49
    exact ⟨_, R_coordinates_in rfl g t_coordinates_in F, (He.glo_ok X G (TstX.tst c 196)), F.kp⟩
  have k_Told : Mkr PySem.Challenge.pw_lawseries_k70_errors_of_ghosts w K mg base (cnK K) 2 "Told" 4 i_Told := by
    obtain ⟨fd, F⟩ := TstX.def_ c 50
    exact ⟨_, mkB_ok (TstX.tst c 197), R_Told_init rfl g t_Told_init F, (He.glo_ok X G (TstX.tst c 180))⟩
  have t_Witt_of_ghosts : T_Witt_of_ghosts PySem.Challenge.pw_lawseries_k70_errors_of_ghosts w K mg base (cnK K) := ⟨d_coordinates_in, d_require_ghosts, k_Told, mk_Witt_0⟩
  have t_require_row : T_require_row PySem.Challenge.pw_lawseries_k70_errors_of_ghosts w K mg base (cnK K) := ⟨j_Row, r_InvalidRow⟩
  have t_ghosts_of_entries : T_ghosts_of_entries PySem.Challenge.pw_lawseries_k70_errors_of_ghosts w K mg base (cnK K) := ⟨True.intro⟩
  have t_Row_degree : T_Row_degree PySem.Challenge.pw_lawseries_k70_errors_of_ghosts w K mg base (cnK K) := ⟨a_own_tops⟩
  have t_Row_is_whole : T_Row_is_whole PySem.Challenge.pw_lawseries_k70_errors_of_ghosts w K mg base (cnK K) := ⟨a_own_bottom, a_own_modulus⟩
  have t_Witt_degree : T_Witt_degree PySem.Challenge.pw_lawseries_k70_errors_of_ghosts w K mg base (cnK K) := ⟨a_own_coordinates⟩
  have d_ghosts_of_entries : Cal PySem.Challenge.pw_lawseries_k70_errors_of_ghosts w K mg base (cnK K) 2 "ghosts_of_entries" m_ghosts_of_entries := by
    obtain ⟨fd, F⟩ := TstX.def_ c 53
    exact ⟨_, R_ghosts_of_entries rfl g t_ghosts_of_entries F, (He.glo_ok X G (TstX.tst c 198)), F.kp⟩
  have d_require_row : Cal PySem.Challenge.pw_lawseries_k70_errors_of_ghosts w K mg base (cnK K) 2 "require_row" m_require_row := by
    obtain ⟨fd, F⟩ := TstX.def_ c 52
    exact ⟨_, R_require_row rfl g t_require_row F, (He.glo_ok X G (TstX.tst c 199)), F.kp⟩
  have p_degree : PrpOk PySem.Challenge.pw_lawseries_k70_errors_of_ghosts w mg base (cnK K) 2 "degree" tp_degree := by
    refine ⟨fun n m e => ?_⟩
    unfold tp_degree at e
    split at e
    · cases e
      obtain ⟨fd, F⟩ := TstX.def_ c 54
      obtain ⟨b1, b2, b3, b4⟩ := pvB_ok ((TstX.tst c 200) : pvB K (He.ga K "Row") "degree" = true)
      exact ⟨sclB_ok (TstX.tst c 44), _, _, b1, b2, b3, b4, (R_Row_degree rfl g t_Row_degree F).mono (by decide)⟩
    · cases e
      obtain ⟨fd, F⟩ := TstX.def_ c 56
      obtain ⟨b1, b2, b3, b4⟩ := pvB_ok ((TstX.tst c 201) : pvB K (He.ga K "Witt") "degree" = true)
      exact ⟨sclB_ok (TstX.tst c 48), _, _, b1, b2, b3, b4, (R_Witt_degree rfl g t_Witt_degree F).mono (by decide)⟩
    · cases e
  have p_is_whole : PrpOk PySem.Challenge.pw_lawseries_k70_errors_of_ghosts w mg base (cnK K) 2 "is_whole" tp_is_whole := by
    refine ⟨fun n m e => ?_⟩
    unfold tp_is_whole at e
    split at e
    · cases e
      obtain ⟨fd, F⟩ := TstX.def_ c 55
      obtain ⟨b1, b2, b3, b4⟩ := pvB_ok ((TstX.tst c 202) : pvB K (He.ga K "Row") "is_whole" = true)
      exact ⟨sclB_ok (TstX.tst c 44), _, _, b1, b2, b3, b4, (R_Row_is_whole rfl g t_Row_is_whole F).mono (by decide)⟩
    · cases e
  have t_Witt_of_row : T_Witt_of_row PySem.Challenge.pw_lawseries_k70_errors_of_ghosts w K mg base (cnK K) := ⟨d_coordinates_in, d_ghosts_of_entries, d_require_row, k_Told, mk_Witt_0, p_degree, p_is_whole, r_InvalidOperation, a_own_tops⟩
  have j_Witt : ∃ C, mg "Witt" = some (.ref C) ∧ IsiOk (cnK K) C tj_Witt := by
    refine ⟨(He.ga K "Witt"), (He.glo_ok X G (TstX.tst c 203)), fun n b e => ?_, ikB_ok (TstX.tst c 204)⟩
    unfold tj_Witt at e
    split at e
    · cases e
      obtain ⟨q1, q2⟩ := isB_ok ((TstX.tst c 205) : isB K (He.ga K "Terms") (He.ga K "Witt") false = true)
      exact ⟨sclB_ok (TstX.tst c 38), q1, q2⟩
    · cases e
      obtain ⟨q1, q2⟩ := isB_ok ((TstX.tst c 206) : isB K (He.ga K "Ratio") (He.ga K "Witt") false = true)
      exact ⟨sclB_ok (TstX.tst c 40), q1, q2⟩
    · cases e
      obtain ⟨q1, q2⟩ := isB_ok ((TstX.tst c 207) : isB K (He.ga K "Made") (He.ga K "Witt") false = true)
      exact ⟨sclB_ok (TstX.tst c 42), q1, q2⟩
    · cases e
      obtain ⟨q1, q2⟩ := isB_ok ((TstX.tst c 208) : isB K (He.ga K "Row") (He.ga K "Witt") false = true)
      exact ⟨sclB_ok (TstX.tst c 44), q1, q2⟩
    · cases e
      obtain ⟨q1, q2⟩ := isB_ok ((TstX.tst c 209) : isB K (He.ga K "Told") (He.ga K "Witt") false = true)
      exact ⟨sclB_ok (TstX.tst c 46), q1, q2⟩
    · cases e
      obtain ⟨q1, q2⟩ := isB_ok ((TstX.tst c 210) : isB K (He.ga K "Witt") (He.ga K "Witt") true = true)
      exact ⟨sclB_ok (TstX.tst c 48), q1, q2⟩
    · cases e
  have t_Witt___eq__ : T_Witt___eq__ PySem.Challenge.pw_lawseries_k70_errors_of_ghosts w K mg base (cnK K) := ⟨j_Witt, a_own_coordinates⟩
  have c0_Witt_of_ghosts : CmOk PySem.Challenge.pw_lawseries_k70_errors_of_ghosts w K mg base (cnK K) 14 "Witt" "of_ghosts" 5 1 [] m_Witt_of_ghosts := by
    obtain ⟨fd, F⟩ := TstX.def_ c 51
    obtain ⟨r1, r2⟩ := cmB_ok ((TstX.tst c 211) : cmB K (He.ga K "Witt") "of_ghosts" = true)
    exact ⟨_, _, _, _, rfl, (He.glo_ok X G (TstX.tst c 203)), r1, r2, (R_Witt_of_ghosts (cn := cnK K) rfl g t_Witt_of_ghosts F).toK⟩
  have c0_Witt_of_row : CmOk PySem.Challenge.pw_lawseries_k70_errors_of_ghosts w K mg base (cnK K) 14 "Witt" "of_row" 5 1 [] m_Witt_of_row := by
    obtain ⟨fd, F⟩ := TstX.def_ c 57
    obtain ⟨r1, r2⟩ := cmB_ok ((TstX.tst c 212) : cmB K (He.ga K "Witt") "of_row" = true)
    exact ⟨_, _, _, _, rfl, (He.glo_ok X G (TstX.tst c 203)), r1, r2, (R_Witt_of_row (cn := cnK K) rfl g t_Witt_of_row F).toK⟩
  have c0_Witt_single : CmOk PySem.Challenge.pw_lawseries_k70_errors_of_ghosts w K mg base (cnK K) 14 "Witt" "single" 5 2 [] m_Witt_single := by
    obtain ⟨fd, F⟩ := TstX.def_ c 48
    obtain ⟨r1, r2⟩ := cmB_ok ((TstX.tst c 213) : cmB K (He.ga K "Witt") "single" = true)
    exact ⟨_, _, _, _, rfl, (He.glo_ok X G (TstX.tst c 203)), r1, r2, (R_Witt_single (cn := cnK K) rfl g t_Witt_single F).toK⟩
  have d__law_pick : Cal PySem.Challenge.pw_lawseries_k70_errors_of_ghosts w K mg base (cnK K) 4 "_law_pick" m__law_pick := by
    obtain ⟨fd, F⟩ := TstX.def_ c 39
    exact ⟨_, R__law_pick rfl g t__law_pick F, (He.glo_ok X G (TstX.tst c 214)), F.kp⟩
  have d_artin_row : Cal PySem.Challenge.pw_lawseries_k70_errors_of_ghosts w K mg base (cnK K) 18 "artin_row" m_artin_row := by
    obtain ⟨fd, F⟩ := TstX.def_ c 33
    exact ⟨_, R_artin_row rfl g t_artin_row F, (He.glo_ok X G (TstX.tst c 215)), F.kp⟩
  have d_counts_of : Cal PySem.Challenge.pw_lawseries_k70_errors_of_ghosts w K mg base (cnK K) 12 "counts_of" m_counts_of := by
    obtain ⟨fd, F⟩ := TstX.def_ c 11
    exact ⟨_, R_counts_of rfl g t_counts_of F, (He.glo_ok X G (TstX.tst c 216)), F.kp⟩
  have d_ghost_fault : Cal PySem.Challenge.pw_lawseries_k70_errors_of_ghosts w K mg base (cnK K) 10 "ghost_fault" m_ghost_fault := by
    obtain ⟨fd, F⟩ := TstX.def_ c 36
    exact ⟨_, R_ghost_fault rfl g t_ghost_fault F, (He.glo_ok X G (TstX.tst c 217)), F.kp⟩
  have d_ghost_row : Cal PySem.Challenge.pw_lawseries_k70_errors_of_ghosts w K mg base (cnK K) 18 "ghost_row" m_ghost_row := by
    obtain ⟨fd, F⟩ := TstX.def_ c 37
    exact ⟨_, R_ghost_row rfl g t_ghost_row F, (He.glo_ok X G (TstX.tst c 218)), F.kp⟩
  have K_Row : Mkr PySem.Challenge.pw_lawseries_k70_errors_of_ghosts w K mg base (cnK K) 12 "Row" 3 (dfl i_Row (.int (0))) := by
    obtain ⟨fd, F⟩ := TstX.def_ c 30
    exact ⟨_, mkB_ok (TstX.tst c 118), D_Row_init rfl g t_Row_init (tb_Row_init c TBs) F, (He.glo_ok X G (TstX.tst c 119))⟩
  have k_Ratio : Mkr PySem.Challenge.pw_lawseries_k70_errors_of_ghosts w K mg base (cnK K) 8 "Ratio" 1 i_Ratio := by
    obtain ⟨fd, F⟩ := TstX.def_ c 23
    exact ⟨_, mkB_ok (TstX.tst c 87), R_Ratio_init rfl g t_Ratio_init F, (He.glo_ok X G (TstX.tst c 88))⟩
  have k_Witt : Mkr PySem.Challenge.pw_lawseries_k70_errors_of_ghosts w K mg base (cnK K) 12 "Witt" 5 i_Witt := by
    obtain ⟨fd, F⟩ := TstX.def_ c 46
    exact ⟨_, mkB_ok (TstX.tst c 195), R_Witt_init rfl g t_Witt_init F, (He.glo_ok X G (TstX.tst c 203))⟩
  have oeq : OeqOk PySem.Challenge.pw_lawseries_k70_errors_of_ghosts w mg base (cnK K) 2 teqT tkT := by
    refine ⟨fun n m e => ?_⟩
    unfold teqT at e
    split at e
    · cases e
      obtain ⟨fd, F⟩ := TstX.def_ c 40
      refine ⟨(of_decide_eq_true (TstX.tst c 221)), He.eqO_ok (TstX.tst c 222), fun j hj => ?_, _, He.eqO_ok (TstX.tst c 219), (TstX.tst c 220), (R_Ratio___eq__ rfl g t_Ratio___eq__ F).mono (by decide)⟩
      unfold tkT at hj
      split at hj
      · exact (TstX.tst c 223)
      · exact (TstX.tst c 224)
      · exact (TstX.tst c 225)
      · exact (TstX.tst c 226)
      · exact (TstX.tst c 227)
      · exact (TstX.tst c 228)
      · cases hj
    · cases e
      obtain ⟨fd, F⟩ := TstX.def_ c 41
      refine ⟨(of_decide_eq_true (TstX.tst c 231)), He.eqO_ok (TstX.tst c 232), fun j hj => ?_, _, He.eqO_ok (TstX.tst c 229), (TstX.tst c 230), (R_Row___eq__ rfl g t_Row___eq__ F).mono (by decide)⟩
      unfold tkT at hj
      split at hj
      · exact (TstX.tst c 233)
      · exact (TstX.tst c 234)
      · exact (TstX.tst c 235)
      · exact (TstX.tst c 236)
      · exact (TstX.tst c 237)
      · exact (TstX.tst c 238)
      · cases hj
    · cases e
      obtain ⟨fd, F⟩ := TstX.def_ c 58
      refine ⟨(of_decide_eq_true (TstX.tst c 241)), He.eqO_ok (TstX.tst c 242), fun j hj => ?_, _, He.eqO_ok (TstX.tst c 239), (TstX.tst c 240), (R_Witt___eq__ rfl g t_Witt___eq__ F).mono (by decide)⟩
      unfold tkT at hj
      split at hj
      · exact (TstX.tst c 243)
      · exact (TstX.tst c 244)
      · exact (TstX.tst c 245)
      · exact (TstX.tst c 246)
      · exact (TstX.tst c 247)
      · exact (TstX.tst c 248)
      · cases hj
    · cases e
  have t__law_met : ThkOk PySem.Challenge.pw_lawseries_k70_errors_of_ghosts w K mg base (cnK K) 2 "_law_met" m__law_met := by
    obtain ⟨fd, F⟩ := TstX.def_ c 35
    exact R__law_met rfl g t__law_met F (He.glo_ok X G (TstX.tst c 249))
  have t__law_made_right : T__law_made_right PySem.Challenge.pw_lawseries_k70_errors_of_ghosts w K mg base (cnK K) := ⟨c0_Witt_of_ghosts, c0_Witt_of_row, c0_Witt_single, d__law_pick, d_artin_row, d_counts_of, d_ghost_fault, d_ghost_row, K_Ratio, K_Row, w_Row, k_Ratio, k_Witt, oeq, t__law_met⟩
  have r_InvalidRatio : Xe0 K mg (cnK K) "InvalidRatio" 7 := by
    exact ex0B_ok PySem.F.excBase_ValueError (He.glo_ok X G (TstX.tst c 250)) (TstX.tst c 251)
  have t_pair_of : T_pair_of PySem.Challenge.pw_lawseries_k70_errors_of_ghosts w K mg base (cnK K) := ⟨d_is_short, j_Ratio, r_InvalidRatio, a_own_bottom, a_own_top⟩
  have d_pair_of : Cal PySem.Challenge.pw_lawseries_k70_errors_of_ghosts w K mg base (cnK K) 6 "pair_of" m_pair_of := by
    obtain ⟨fd, F⟩ := TstX.def_ c 60
    exact ⟨_, R_pair_of rfl g t_pair_of F, (He.glo_ok X G (TstX.tst c 252)), F.kp⟩
  have t_Ratio_plus : T_Ratio_plus PySem.Challenge.pw_lawseries_k70_errors_of_ghosts w K mg base (cnK K) := ⟨d_pair_of, d_ratio_of, a_own_bottom, a_own_top⟩
  have t_Ratio_minus : T_Ratio_minus PySem.Challenge.pw_lawseries_k70_errors_of_ghosts w K mg base (cnK K) := ⟨d_pair_of, d_ratio_of, a_own_bottom, a_own_top⟩
  have t_Ratio_times : T_Ratio_times PySem.Challenge.pw_lawseries_k70_errors_of_ghosts w K mg base (cnK K) := ⟨d_pair_of, d_ratio_of, a_own_bottom, a_own_top⟩
  have t_line_sum : T_line_sum PySem.Challenge.pw_lawseries_k70_errors_of_ghosts w K mg base (cnK K) := ⟨d_line_of⟩
  have t_line_in : T_line_in PySem.Challenge.pw_lawseries_k70_errors_of_ghosts w K mg base (cnK K) := ⟨a_own_bottom, a_own_tops⟩
  have t_require_like : T_require_like PySem.Challenge.pw_lawseries_k70_errors_of_ghosts w K mg base (cnK K) := ⟨d_require_row, r_InvalidOperation, a_own_modulus⟩
  have d_line_in : Cal PySem.Challenge.pw_lawseries_k70_errors_of_ghosts w K mg base (cnK K) 2 "line_in" m_line_in := by
    obtain ⟨fd, F⟩ := TstX.def_ c 65
    exact ⟨_, R_line_in rfl g t_line_in F, (He.glo_ok X G (TstX.tst c 253)), F.kp⟩
  have d_line_sum : Cal PySem.Challenge.pw_lawseries_k70_errors_of_ghosts w K mg base (cnK K) 4 "line_sum" m_line_sum := by
    obtain ⟨fd, F⟩ := TstX.def_ c 64
    exact ⟨_, R_line_sum rfl g t_line_sum F, (He.glo_ok X G (TstX.tst c 254)), F.kp⟩
  have d_require_like : Cal PySem.Challenge.pw_lawseries_k70_errors_of_ghosts w K mg base (cnK K) 4 "require_like" m_require_like := by
    obtain ⟨fd, F⟩ := TstX.def_ c 66
    exact ⟨_, R_require_like rfl g t_require_like F, (He.glo_ok X G (TstX.tst c 255)), F.kp⟩
  have t_Row_plus : T_Row_plus PySem.Challenge.pw_lawseries_k70_errors_of_ghosts w K mg base (cnK K) := ⟨d_line_in, d_line_sum, d_require_like, d_row_with, D_row_with, a_own_modulus⟩
  have t_Row_minus : T_Row_minus PySem.Challenge.pw_lawseries_k70_errors_of_ghosts w K mg base (cnK K) := ⟨d_line_in, d_line_sum, d_require_like, d_row_with, D_row_with, a_own_modulus⟩
  have t_line_times : T_line_times PySem.Challenge.pw_lawseries_k70_errors_of_ghosts w K mg base (cnK K) := ⟨d_line_of⟩
  have d_line_times : Cal PySem.Challenge.pw_lawseries_k70_errors_of_ghosts w K mg base (cnK K) 4 "line_times" m_line_times := by
    obtain ⟨fd, F⟩ := TstX.def_ c 69
    exact ⟨_, R_line_times rfl g t_line_times F, (He.glo_ok X G (TstX.tst c 256)), F.kp⟩
  have t_Row_times : T_Row_times PySem.Challenge.pw_lawseries_k70_errors_of_ghosts w K mg base (cnK K) := ⟨d_line_in, d_line_times, d_require_like, d_row_with, D_row_with, a_own_modulus⟩
  have t_Row_cut : T_Row_cut PySem.Challenge.pw_lawseries_k70_errors_of_ghosts w K mg base (cnK K) := ⟨d_line_of, d_require_count, d_row_with, D_row_with, a_own_bottom, a_own_modulus, a_own_tops⟩
  have t_ghosts_told : T_ghosts_told PySem.Challenge.pw_lawseries_k70_errors_of_ghosts w K mg base (cnK K) := ⟨j_Witt, r_InvalidGhosts, a_own_ghosts⟩
  have t_witt_made : T_witt_made PySem.Challenge.pw_lawseries_k70_errors_of_ghosts w K mg base (cnK K) := ⟨d_coordinates_in, k_Told, k_Witt⟩
  have d_ghosts_told : Cal PySem.Challenge.pw_lawseries_k70_errors_of_ghosts w K mg base (cnK K) 2 "ghosts_told" m_ghosts_told := by
    obtain ⟨fd, F⟩ := TstX.def_ c 72
    exact ⟨_, R_ghosts_told rfl g t_ghosts_told F, (He.glo_ok X G (TstX.tst c 257)), F.kp⟩
  have d_witt_made : Cal PySem.Challenge.pw_lawseries_k70_errors_of_ghosts w K mg base (cnK K) 14 "witt_made" m_witt_made := by
    obtain ⟨fd, F⟩ := TstX.def_ c 73
    exact ⟨_, R_witt_made rfl g t_witt_made F, (He.glo_ok X G (TstX.tst c 258)), F.kp⟩
  have t_Witt_plus : T_Witt_plus PySem.Challenge.pw_lawseries_k70_errors_of_ghosts w K mg base (cnK K) := ⟨d_ghosts_told, d_witt_made, a_own_ghosts⟩
  have t_Witt_minus : T_Witt_minus PySem.Challenge.pw_lawseries_k70_errors_of_ghosts w K mg base (cnK K) := ⟨d_ghosts_told, d_witt_made, a_own_ghosts⟩
  have t_Witt_times : T_Witt_times PySem.Challenge.pw_lawseries_k70_errors_of_ghosts w K mg base (cnK K) := ⟨d_ghosts_told, d_witt_made, a_own_ghosts⟩
  have t_Witt_moved : T_Witt_moved PySem.Challenge.pw_lawseries_k70_errors_of_ghosts w K mg base (cnK K) := ⟨d_require_count, d_witt_made, a_own_ghosts⟩
  have t_Witt_taken : T_Witt_taken PySem.Challenge.pw_lawseries_k70_errors_of_ghosts w K mg base (cnK K) := ⟨d_require_count, d_witt_made, r_InvalidOperation, a_own_ghosts⟩
  have t_Witt_cut : T_Witt_cut PySem.Challenge.pw_lawseries_k70_errors_of_ghosts w K mg base (cnK K) := ⟨d_require_count, k_Told, k_Witt, a_own_coordinates⟩
  have t_Witt_rests : T_Witt_rests PySem.Challenge.pw_lawseries_k70_errors_of_ghosts w K mg base (cnK K) := ⟨d_is_short, r_InvalidModulus, a_own_coordinates⟩
  have q_cut : MthOk PySem.Challenge.pw_lawseries_k70_errors_of_ghosts w mg base (cnK K) 16 "cut" tm_cut := by
    refine ⟨fun n m e => ?_⟩
    unfold tm_cut at e
    split at e
    · cases e
      obtain ⟨fd, F⟩ := TstX.def_ c 71
      exact ⟨sclB_ok (TstX.tst c 44), _, meB_ok (TstX.tst c 259), (R_Row_cut rfl g t_Row_cut F).mono (by decide)⟩
    · cases e
      obtain ⟨fd, F⟩ := TstX.def_ c 79
      exact ⟨sclB_ok (TstX.tst c 48), _, meB_ok (TstX.tst c 260), (R_Witt_cut rfl g t_Witt_cut F).mono (by decide)⟩
    · cases e
  have q_minus : MthOk PySem.Challenge.pw_lawseries_k70_errors_of_ghosts w mg base (cnK K) 16 "minus" tm_minus := by
    refine ⟨fun n m e => ?_⟩
    unfold tm_minus at e
    split at e
    · cases e
      obtain ⟨fd, F⟩ := TstX.def_ c 62
      exact ⟨sclB_ok (TstX.tst c 40), _, meB_ok (TstX.tst c 261), (R_Ratio_minus rfl g t_Ratio_minus F).mono (by decide)⟩
    · cases e
      obtain ⟨fd, F⟩ := TstX.def_ c 68
      exact ⟨sclB_ok (TstX.tst c 44), _, meB_ok (TstX.tst c 262), (R_Row_minus rfl g t_Row_minus F).mono (by decide)⟩
    · cases e
      obtain ⟨fd, F⟩ := TstX.def_ c 75
      exact ⟨sclB_ok (TstX.tst c 48), _, meB_ok (TstX.tst c 263), (R_Witt_minus rfl g t_Witt_minus F).mono (by decide)⟩
    · cases e
  have q_moved : MthOk PySem.Challenge.pw_lawseries_k70_errors_of_ghosts w mg base (cnK K) 16 "moved" tm_moved := by
    refine ⟨fun n m e => ?_⟩
    unfold tm_moved at e
    split at e
    · cases e
      obtain ⟨fd, F⟩ := TstX.def_ c 77
      exact ⟨sclB_ok (TstX.tst c 48), _, meB_ok (TstX.tst c 264), (R_Witt_moved rfl g t_Witt_moved F).mono (by decide)⟩
    · cases e
  have q_plus : MthOk PySem.Challenge.pw_lawseries_k70_errors_of_ghosts w mg base (cnK K) 16 "plus" tm_plus := by
    refine ⟨fun n m e => ?_⟩
    unfold tm_plus at e
    split at e
    · cases e
      obtain ⟨fd, F⟩ := TstX.def_ c 61
      exact ⟨sclB_ok (TstX.tst c 40), _, meB_ok (TstX.tst c 265), (R_Ratio_plus rfl g t_Ratio_plus F).mono (by decide)⟩
    · cases e
      obtain ⟨fd, F⟩ := TstX.def_ c 67
      exact ⟨sclB_ok (TstX.tst c 44), _, meB_ok (TstX.tst c 266), (R_Row_plus rfl g t_Row_plus F).mono (by decide)⟩
    · cases e
      obtain ⟨fd, F⟩ := TstX.def_ c 74
      exact ⟨sclB_ok (TstX.tst c 48), _, meB_ok (TstX.tst c 267), (R_Witt_plus rfl g t_Witt_plus F).mono (by decide)⟩
    · cases e
  have q_rests : MthOk PySem.Challenge.pw_lawseries_k70_errors_of_ghosts w mg base (cnK K) 6 "rests" tm_rests := by
    refine ⟨fun n m e => ?_⟩
    unfold tm_rests at e
    split at e
    · cases e
      obtain ⟨fd, F⟩ := TstX.def_ c 80
      exact ⟨sclB_ok (TstX.tst c 48), _, meB_ok (TstX.tst c 268), (R_Witt_rests rfl g t_Witt_rests F).mono (by decide)⟩
    · cases e
  have q_taken : MthOk PySem.Challenge.pw_lawseries_k70_errors_of_ghosts w mg base (cnK K) 16 "taken" tm_taken := by
    refine ⟨fun n m e => ?_⟩
    unfold tm_taken at e
    split at e
    · cases e
      obtain ⟨fd, F⟩ := TstX.def_ c 78
      exact ⟨sclB_ok (TstX.tst c 48), _, meB_ok (TstX.tst c 269), (R_Witt_taken rfl g t_Witt_taken F).mono (by decide)⟩
    · cases e
  have q_times : MthOk PySem.Challenge.pw_lawseries_k70_errors_of_ghosts w mg base (cnK K) 16 "times" tm_times := by
    refine ⟨fun n m e => ?_⟩
    unfold tm_times at e
    split at e
    · cases e
      obtain ⟨fd, F⟩ := TstX.def_ c 63
      exact ⟨sclB_ok (TstX.tst c 40), _, meB_ok (TstX.tst c 270), (R_Ratio_times rfl g t_Ratio_times F).mono (by decide)⟩
    · cases e
      obtain ⟨fd, F⟩ := TstX.def_ c 70
      exact ⟨sclB_ok (TstX.tst c 44), _, meB_ok (TstX.tst c 271), (R_Row_times rfl g t_Row_times F).mono (by decide)⟩
    · cases e
      obtain ⟨fd, F⟩ := TstX.def_ c 76
      exact ⟨sclB_ok (TstX.tst c 48), _, meB_ok (TstX.tst c 272), (R_Witt_times rfl g t_Witt_times F).mono (by decide)⟩
    · cases e
  have t__law_used_right : T__law_used_right PySem.Challenge.pw_lawseries_k70_errors_of_ghosts w K mg base (cnK K) := ⟨d__law_pick, K_Row, k_Witt, q_cut, q_minus, q_moved, q_plus, q_rests, q_taken, q_times, oeq, t__law_met⟩
  have d__law_dice : Cal PySem.Challenge.pw_lawseries_k70_errors_of_ghosts w K mg base (cnK K) 2 "_law_dice" m__law_dice := by
    obtain ⟨fd, F⟩ := TstX.def_ c 34
    exact ⟨_, R__law_dice rfl g t__law_dice F, (He.glo_ok X G (TstX.tst c 273)), F.kp⟩
  have d__law_made_right : Cal PySem.Challenge.pw_lawseries_k70_errors_of_ghosts w K mg base (cnK K) 22 "_law_made_right" m__law_made_right := by
    obtain ⟨fd, F⟩ := TstX.def_ c 59
    exact ⟨_, R__law_made_right rfl g t__law_made_right (tb__law_made_right c TBs) F, (He.glo_ok X G (TstX.tst c 274)), F.kp⟩
  have d__law_used_right : Cal PySem.Challenge.pw_lawseries_k70_errors_of_ghosts w K mg base (cnK K) 20 "_law_used_right" m__law_used_right := by
    obtain ⟨fd, F⟩ := TstX.def_ c 81
    exact ⟨_, R__law_used_right rfl g t__law_used_right (tb__law_used_right c TBs) F, (He.glo_ok X G (TstX.tst c 275)), F.kp⟩
  have t_law : T_law PySem.Challenge.pw_lawseries_k70_errors_of_ghosts w K mg base (cnK K) := ⟨d__law_dice, d__law_made_right, d__law_used_right, d_artin_row, d_counts_of, oeq, t__law_met⟩
  exact t_law
theorem fin {fa : Addr} (Y : tst.Says K h) (G : h.Ns mainGlobals mg) (hfa : mg "law" = some (.ref fa)) :
    ∃ (K : PySem.W.Frag) (fd : FuncData) (cs : List (Addr × Addr)) (sp : Sp), K.In h ∧ (∀ p ∈ cs, h.get? p.2 = some { cls := .none, data := .fields #[] }) ∧ (∀ p ∈ cs, K.lookup p.2 = none) ∧ (∀ p ∈ cs, PySem.W.CodeHd h p.1 p.2) ∧
      (∀ (s : Shared) (u : Value), BindsTo s fd ⟨[u], []⟩ [("_law_script", u)]) ∧
      (∀ (H : Hp) (a : Addr) (ns : List Int), ns.length ≤ 63 → (∀ p ∈ cs, H p.2 = some (.tbl #[])) → SqL K H a (ns.map V.int) → sp [.ref a] H (fun v _ => v = .bl true) fun _ _ _ => False) ∧
      ∀ base : Heap, K.In base → base.Ns mainGlobals mg → (∀ p ∈ cs, LamX.TabB base mg p.1 p.2) → Dx.FnOk PySem.Challenge.pw_lawseries_k70_errors_of_ghosts w K mg base L2.CX0 26 fa fd ["_law_script"] sp := by
  have c := Y.c
  have X := Y.x
  obtain ⟨fd, F⟩ := TstX.def_ c 82
  have e := hfa.symm.trans (He.glo_ok X G (TstX.tst c 276))
  cases e
  have b := FunD.bindsA (ps := ["_law_script"]) F fun _ _ _ _ _ _ us hl => match us, hl with | [_], _ => rfl
  have hcs : ∀ p ∈ csK K, ∃ f ∈ tst.tb, p = (cdX K (f K), tbX K (f K)) := fun p hp => by
    have e : csK K = tst.tb.map fun f => (cdX K (f K), tbX K (f K)) := rfl
    rw [e] at hp
    obtain ⟨f, h1, h2⟩ := List.mem_map.mp hp
    exact ⟨f, h1, h2.symm⟩
  refine ⟨K, fd, csK K, _, X, fun p hp => ?_, fun p hp => ?_, fun p hp => ?_, fun s v => b s [v] rfl, fun H a ns hl hT hS => law_trueT (cn := cnK K) rfl plain H a ns hl (fun P hP => ?_) hS, fun base _ _ TBs => law_fin (O_law rfl (gs X G c) (all X G c TBs) (tb_law c TBs) F)⟩
  · obtain ⟨f, h1, rfl⟩ := hcs p hp
    exact (Y.tab f h1).1
  · obtain ⟨f, h1, rfl⟩ := hcs p hp
    exact (Y.tab f h1).2.1
  · obtain ⟨f, h1, rfl⟩ := hcs p hp
    exact (Y.tab f h1).2.2
  · have hm : P ∈ (csK K).map (·.2) := by
      have e : (csK K).map (·.2) = (tqK K).map (·.1) ++ tgK K := rfl
      rw [e]
      rcases hP with hP | hP
      · exact List.mem_append_left _ (tqL_mem hP)
      · exact List.mem_append_right _ (of_decide_eq_true hP)
    obtain ⟨p, h1, h2⟩ := List.mem_map.mp hm
    exact h2 ▸ hT p h1
end
end K70
open PySem PySem.W PySem.Calls PyProof.Rows
set_option maxHeartbeats 0 in
theorem PySem.Challenge.cw_lawseries_k70_errors_of_ghosts_holds : PySem.Challenge.rw_lawseries_k70_errors_of_ghosts.Holds := by
  w_on; o_law
  refine HandSHeadRun.head_imp (r := OpenLaw.row PySem.Challenge.rw_lawseries_k70_errors_of_ghosts) (q := view (OpenLaw.row PySem.Challenge.rw_lawseries_k70_errors_of_ghosts).prog [0, 90]) (H := K70.tst.hook) (ob := K70.tst.ob) (M := 20000) (loose := K70.loose) (d := HandSHeadRun.topDef (OpenLaw.row PySem.Challenge.rw_lawseries_k70_errors_of_ghosts).prog 90) (kwd := []) K70.tst.ob_eq
    K70.run (by kernel_rfl) (by kernel_rfl) (by kernel_rfl) (by rfl) (by first | assumption | decide +kernel) (by decide +kernel) ⟨rfl, rfl, rfl, rfl, rfl, by decide +kernel⟩ ?hw ?hc
  case hw => w_witness2
  case hc =>
    refine Dx.walk_ofX (l := PySem.Challenge.rw_lawseries_k70_errors_of_ghosts) (n := 63) (k := 26) (x := "_law_script") (CX := L2.CX0) rfl (by decide) (by kernel_rfl) ⟨⟨rfl, by decide, by decide⟩, rfl⟩ ?F ?X
    case X => exact fun _ _ _ _ z => z
    intro w mg fa h Y G hmg0
    obtain ⟨K, Y⟩ := Y
    have hmg : mg ("law" : PySem.Str) = some (.ref fa) := by
      have e : (HandSHeadRun.topDef (OpenLaw.row PySem.Challenge.rw_lawseries_k70_errors_of_ghosts).prog 90).name = ("law" : PySem.Str) := by kernel_rfl
      rw [<- e]
      exact hmg0
    exact K70.fin Y G hmg
