import PyProof.Rows.All
import Wide.All
import OpenK.AllK
import Wide.FinOn
import KE.KStateDown
import Lean
import HandS.Head0
import HandS.Head1
import HandS.Head2
import HandS.HeadEnd
import HandS.HeadHook1
import HandS.HeadHook2
import HandS.EndTab
import HandS.Slots
import HandS.Property
import KE.KNestM
import HandS.Words
import KE.KExcInit
import HandS.ExcField
import HandS.Head3
import HandS.Defaults
import HandS.More
import HandS.Spec
import HandS.Lambda
import HandS.ForMost
import HandS.ForExc
import HandS.SlotsOwn
import HandS.SlotsVar
import HandS.Wide
import HandS.Gcd
import HandS.Iter
import HandS.TupMul
import HandS.Call
import HandS.TupAny
import HandS.SortInts
import HandS.Base
import HandS.Style
import HandS.MakeKw
import HandS.CallSlots
import HandS.ClsMeth
import HandS.FStr
import HandS.IsInst
import HandS.DictSubView
import HandS.DictTup
import HandS.Conv
import HandS.DictComp
import HandS.WordsExc
import HandS.MakeKwOnly
import KE.KExcSuper
import HandS.Star
import HandS.OwnEq
import HandS.DeepEq
import HandS.RaiseMore
import HandS.Zip
import HandS.ListItems
import KE.KDictZip
import KE.KDictList
import PyProof.ListNew
import PyProof.WalksEnum
import PyProof.EnumMake
import PyProof.Draws
import PyProof.TupleIter
import PyProof.WalksMore
import PyProof.GenCompT
import HandS.AnyAll
import KE.KDictIter
import HandS.DictEq
import KE.KDictDisplayH
import HandS.Flt
import HandS.Keys
import HandS.SortKw
import KE.SortKeyHeap
import PyProof.ReprRoads
import KE.KCallOwn
import HandS.Sort
import KE.KDictPairs
import HandS.Small
import KE.KDictCopyH
import KE.KDictKeyed
import HandS.GenList
import HandS.OwnIter
import HandS.IterNext
import KE.DataMinMax
import HandS.Text
import PySem.Challenge.RW_lawseries_k08_rows_told
set_option Elab.async false
set_option linter.all false
set_option maxRecDepth 100000
set_option maxHeartbeats 4000000
namespace K08
open PySem PySem.W PySem.Calls PyProof.Rows
set_option maxHeartbeats 0 in
theorem look (h : (OpenLaw.row PySem.Challenge.rw_lawseries_k08_rows_told).wellSaid = true → (OpenLaw.row PySem.Challenge.rw_lawseries_k08_rows_told).Holds) : PySem.Challenge.rw_lawseries_k08_rows_told.Holds := by
  w_on; o_law
  exact h (by assumption)
set_option maxHeartbeats 0 in
theorem wit : (OpenLaw.row PySem.Challenge.rw_lawseries_k08_rows_told).toRowW.promised := by w_witness2
set_option maxHeartbeats 0 in
theorem bare : (OpenLaw.row PySem.Challenge.rw_lawseries_k08_rows_told).prog.bare := ⟨rfl, rfl, rfl, rfl, rfl, by decide +kernel⟩
end K08

namespace Dx
open PySem PySem.Spec PyProof.Rows L2
structure DfX where
  ad : PySem.W.Frag → Addr
  nm : Str
  qn : Str
  st : Stmt
  /-- its closure is not looked at here -/
  su : Bool := false
  dfl : List V := []
  kwd : List (Str × V) := []
def seeX (K : PySem.W.Frag) (a : Addr) : He.FnW := (K.lookup a).bind fun o => match o.data with
  | .func z => some (z.name, z.qualname, z.params, z.body, z.scope, z.globals, z.closure, z.builtins)
  | _ => none
def seeI (K : PySem.W.Frag) (a : Addr) : He.FnW := (K.lookup a).bind fun o => match o.data with
  | .func z => some (z.name, z.qualname, z.params, z.body, z.scope, z.globals, [], z.builtins)
  | _ => none
def seeD (K : PySem.W.Frag) (d : DfX) : He.FnW := match d.su with
  | true => seeI K (d.ad K)
  | false => seeX K (d.ad K)
def DfX.due (d : DfX) : He.FnW := some (d.nm, d.qn, defArgs d.st, .stmts (defBody d.st), defScope d.st, mainGlobals, [], builtinsNs)
def noV : Value → Bool
  | .none => true
  | _ => false
def okX (K : PySem.W.Frag) (d : DfX) : Bool := PySem.W.keepIn K (.ref (d.ad K)) && ((K.lookup (d.ad K)).elim false fun o => match o.data with
  | .func z => PySem.W.codeIn K z.code d.qn && (He.dflB K z.defaults d.dfl && He.kwdB K z.kwdefaults d.kwd)
  | _ => false)
theorem funX {K : PySem.W.Frag} {d : DfX} (e : seeX K (d.ad K) = d.due) (c : okX K d = true) : ∃ fd, FunD K d.nm d.qn (defArgs d.st) (defBody d.st) (defScope d.st) d.dfl d.kwd (d.ad K) fd := by
  obtain ⟨kp, c2⟩ := Bool.and_eq_true_iff.mp c
  unfold seeX at e
  cases q : K.lookup (d.ad K) with
  | none =>
    rw [q] at c2
    cases c2
  | some o =>
    rw [q] at c2 e
    obtain ⟨oc, od, dt, osl⟩ := o
    cases dt with
    | func z =>
      obtain ⟨n1, n2, n3, n4, n5, n6, n7, n8, n9, n10, n11, n12, n13, n14, n15⟩ := z
      have e2 : (some (n1, n2, n3, n4, n5, n6, n7, n15) : He.FnW) = d.due := e
      unfold DfX.due at e2
      simp only [Option.some.injEq, Prod.mk.injEq] at e2
      obtain ⟨h1, h2, h3, h4, h5, h6, h7, h8⟩ := e2
      subst h1 h2 h3 h4 h5 h6 h7 h8
      have c3 : (PySem.W.codeIn K n13 d.qn && (He.dflB K n8 d.dfl && He.kwdB K n9 d.kwd)) = true := c2
      obtain ⟨k1, k2⟩ := Bool.and_eq_true_iff.mp c3
      obtain ⟨k3, k4⟩ := Bool.and_eq_true_iff.mp k2
      exact ⟨_, ⟨oc, od, n8, n9, n10, n11, n12, n13, n14, osl, rfl, q, k1, He.dflB_ok k3, He.kwdB_ok k4⟩, kp⟩
    | _ => cases c2
def fstRef : Option (Option Value) → Option Addr
  | some (some (.ref a)) => some a
  | _ => none
def atX (K : PySem.W.Frag) (C : Addr) (f : Str) : Addr := (fstRef (PySem.W.findIn K (.ref C) f)).getD 0
def prX (K : PySem.W.Frag) (C : Addr) (f : Str) : Addr := match PySem.W.recIn K (atX K C f) "property" with
  | some (.ref g :: _) => g
  | _ => 0
def sclB (K : PySem.W.Frag) (C : Addr) : Bool := PySem.W.plainGet K C Str.empty && PySem.W.isClsIn K C && PySem.W.plainOver K C && He.eqO (PySem.W.findIn K (.ref C) "__setattr__") (some (some (.builtin "object.__setattr__")))
theorem sclB_ok {K : PySem.W.Frag} {C : Addr} (h : sclB K C = true) : SlX.SCls K C := by
  unfold sclB at h
  simp only [Bool.and_eq_true] at h
  exact ⟨h.1.1.1, h.1.1.2, h.1.2, He.eqO_ok h.2⟩
def slB (K : PySem.W.Frag) (C : Addr) (f : Str) (i : Nat) : Bool := He.eqO (PySem.W.findIn K (.ref C) f) (some (some (.ref (atX K C f)))) && He.eqO (PySem.W.specialIn K (.ref (atX K C f)) "__get__") (some (some (.builtin "member_descriptor.__get__"))) &&
  decide (PySem.W.takesIn K (.ref (atX K C f)) = some true) && decide (PySem.W.typeIn K (.ref (atX K C f)) = some (.type "member_descriptor")) && decide (PySem.W.slotIn K (atX K C f) C = some i) && decide (i < 1000)
theorem slB_ok {K : PySem.W.Frag} {C : Addr} {f : Str} {i : Nat} (h : slB K C f i = true) : SlX.Slot1 K C f (atX K C f) i := by
  unfold slB at h
  simp only [Bool.and_eq_true, decide_eq_true_eq] at h
  exact ⟨He.eqO_ok h.1.1.1.1.1, He.eqO_ok h.1.1.1.1.2, h.1.1.1.2, h.1.1.2, h.1.2, h.2⟩
def meB (K : PySem.W.Frag) (C : Addr) (f : Str) : Bool := He.eqO (PySem.W.findIn K (.ref C) f) (some (some (.ref (atX K C f)))) && PySem.W.isFn K (.ref (atX K C f)) && PySem.W.keepIn K (.ref (atX K C f))
theorem meB_ok {K : PySem.W.Frag} {C : Addr} {f : Str} (h : meB K C f = true) : Meth K C f (atX K C f) := by
  unfold meB at h
  simp only [Bool.and_eq_true] at h
  exact ⟨He.eqO_ok h.1.1, h.1.2, h.2⟩
def mkB (K : PySem.W.Frag) (C : Addr) : Bool := PySem.W.makesIn K C && He.eqO (PySem.W.findIn K (.ref C) "__init__") (some (some (.ref (atX K C "__init__")))) && PySem.W.isFn K (.ref (atX K C "__init__")) && PySem.W.keepIn K (.ref C)
theorem mkB_ok {K : PySem.W.Frag} {C : Addr} (h : mkB K C = true) : Mk K C (atX K C "__init__") := by
  unfold mkB at h
  simp only [Bool.and_eq_true] at h
  exact ⟨h.1.1.1, He.eqO_ok h.1.1.2, h.1.2, h.2⟩
def pvB (K : PySem.W.Frag) (C : Addr) (f : Str) : Bool := He.eqO (PySem.W.findIn K (.ref C) f) (some (some (.ref (atX K C f)))) && He.eqO (PySem.W.specialIn K (.ref (atX K C f)) "__get__") (some (some (.builtin "property.__get__"))) &&
  decide (PySem.W.takesIn K (.ref (atX K C f)) = some true) && (match PySem.W.recIn K (atX K C f) "property" with
    | some (.ref _ :: _) => true
    | _ => false)
theorem pvB_ok {K : PySem.W.Frag} {C : Addr} {f : Str} (h : pvB K C f = true) : PySem.W.findIn K (.ref C) f = some (some (.ref (atX K C f))) ∧ PySem.W.specialIn K (.ref (atX K C f)) "__get__" = some (some (.builtin "property.__get__")) ∧
    PySem.W.takesIn K (.ref (atX K C f)) = some true ∧ ∃ rest, PySem.W.recIn K (atX K C f) "property" = some (.ref (prX K C f) :: rest) := by
  unfold pvB at h
  simp only [Bool.and_eq_true, decide_eq_true_eq] at h
  refine ⟨He.eqO_ok h.1.1.1, He.eqO_ok h.1.1.2, h.1.2, ?_⟩
  have h4 := h.2
  unfold prX
  split at h4
  · rename_i g rest e
    rw [e]
    exact ⟨rest, rfl⟩
  · cases h4
structure TstX where
  ts : List (PySem.W.Frag → Bool)
  ds : List DfX
def TstX.see (t : TstX) (K : PySem.W.Frag) : Bool × List He.FnW := ((t.ts.all fun f => f K) && t.ds.all (okX K), t.ds.map (seeD K))
def TstX.due (t : TstX) : Bool × List He.FnW := (true, t.ds.map DfX.due)
section
variable {t : TstX} {K : PySem.W.Frag} (c : t.see K = t.due)
include c
theorem TstX.tst (i : Nat) {f : PySem.W.Frag → Bool} (h : t.ts[i]? = some f := by rfl) : f K = true :=
  List.all_eq_true.mp (Bool.and_eq_true_iff.mp (congrArg Prod.fst c)).1 f (List.mem_of_getElem? h)
theorem TstX.def_ (i : Nat) {d : DfX} (h : t.ds[i]? = some d := by rfl) (hs : d.su = false := by rfl) : ∃ fd, FunD K d.nm d.qn (defArgs d.st) (defBody d.st) (defScope d.st) d.dfl d.kwd (d.ad K) fd := by
  have c2 := (Bool.and_eq_true_iff.mp (congrArg Prod.fst c)).2
  have e : (t.ds.map (seeD K)) = t.ds.map DfX.due := congrArg Prod.snd c
  have e2 : (t.ds.map (seeD K))[i]? = (t.ds.map DfX.due)[i]? := by rw [e]
  rw [List.getElem?_map, List.getElem?_map, h] at e2
  have e3 : seeD K d = d.due := Option.some.inj e2
  unfold seeD at e3
  rw [hs] at e3
  exact funX e3 (List.all_eq_true.mp c2 d (List.mem_of_getElem? h))
theorem TstX.defI (i : Nat) {d : DfX} (h : t.ds[i]? = some d := by rfl) (hs : d.su = true := by rfl) : seeI K (d.ad K) = d.due ∧ okX K d = true := by
  have c2 := (Bool.and_eq_true_iff.mp (congrArg Prod.fst c)).2
  have e : (t.ds.map (seeD K)) = t.ds.map DfX.due := congrArg Prod.snd c
  have e2 : (t.ds.map (seeD K))[i]? = (t.ds.map DfX.due)[i]? := by rw [e]
  rw [List.getElem?_map, List.getElem?_map, h] at e2
  have e3 : seeD K d = d.due := Option.some.inj e2
  unfold seeD at e3
  rw [hs] at e3
  exact ⟨e3, List.all_eq_true.mp c2 d (List.mem_of_getElem? h)⟩
end
def cdX (K : PySem.W.Frag) (f : Addr) : Addr := match K.lookup f with
  | some o => (match o.data with
    | .func z => (match z.code with
      | .ref c => c
      | _ => 0)
    | _ => 0)
  | none => 0
def tbX (K : PySem.W.Frag) (f : Addr) : Addr := match K.lookup (cdX K f) with
  | some o => (match o.data with
    | .fields vs => (match (vs[11]? : Option Value) with
      | some (.ref P) => P
      | _ => 0)
    | _ => 0)
  | none => 0
def isTab (o : Option Obj) : Bool := match o with
  | some ⟨.none, none, .fields vs, sl⟩ => vs.size == 0 && sl.size == 0
  | _ => false
theorem isTab_ok {o : Option Obj} (h : isTab o = true) : o = some { cls := .none, data := .fields #[] } := by
  unfold isTab at h
  split at h
  · rename_i vs sl
    obtain ⟨h1, h2⟩ := Bool.and_eq_true_iff.mp h
    have e1 : vs = #[] := Array.eq_empty_of_size_eq_zero (beq_iff_eq.mp h1)
    have e2 : sl = #[] := Array.eq_empty_of_size_eq_zero (beq_iff_eq.mp h2)
    rw [e1, e2]
  · cases h
structure TstY where
  ts : List (PySem.W.Frag → Bool)
  ds : List DfX
  /-- functions whose code's table is written -/
  tb : List (PySem.W.Frag → Addr)
  ads : List Addr
def TstY.x (t : TstY) : TstX := ⟨t.ts, t.ds⟩
def TstY.obs (t : TstY) (g : Addr → Option Obj) : (Bool × List He.FnW) × Bool := (t.x.see (He.frG g t.ads), t.tb.all fun f => isTab (g (tbX (He.frG g t.ads) (f (He.frG g t.ads)))) && ((He.frG g t.ads).lookup (tbX (He.frG g t.ads) (f (He.frG g t.ads)))).isNone &&
  PySem.W.codeHdIn (He.frG g t.ads) (cdX (He.frG g t.ads) (f (He.frG g t.ads))) (tbX (He.frG g t.ads) (f (He.frG g t.ads))))
structure TstY.Says (t : TstY) (K : PySem.W.Frag) (h : Heap) : Prop where
  x : K.In h
  c : t.x.see K = t.x.due
  tab : ∀ f ∈ t.tb, h.get? (tbX K (f K)) = some { cls := .none, data := .fields #[] } ∧ K.lookup (tbX K (f K)) = none ∧ PySem.W.CodeHd h (cdX K (f K)) (tbX K (f K))
def TstY.hook (t : TstY) : PySem.W.Hook where
  α := (Bool × List He.FnW) × Bool
  obs := fun s => t.obs s.heap.get?
  val := fun _ => (t.x.due, true)
  says := fun _ h => ∃ K : PySem.W.Frag, t.Says K h
  of := fun w s e => ⟨He.frG s.heap.get? t.ads, He.frG_in, congrArg Prod.fst e, fun f hf => by
    have h := List.all_eq_true.mp (congrArg Prod.snd e) f hf
    simp only [Bool.and_eq_true] at h
    exact ⟨isTab_ok h.1.1, Option.isNone_iff_eq_none.mp h.1.2, PySem.W.codeHd_of_K He.frG_in h.2⟩⟩
  keeps := fun _ _ _ ⟨K, s⟩ k => ⟨K, s.x.keeps k, s.c, fun f hf => by
    obtain ⟨h1, h2, h3⟩ := s.tab f hf
    exact ⟨k _ _ h1, h2, h3.keeps k⟩⟩
def TstY.ob (t : TstY) (s : PySem.W.SharedT) : (Bool × List He.FnW) × Bool := t.obs (HandSHeadRun.getT s)
theorem TstY.ob_eq (t : TstY) (s : PySem.W.SharedT) : t.ob s = t.hook.obs s.abs := by
  show t.obs (HandSHeadRun.getT s) = t.obs s.abs.heap.get?
  rw [show HandSHeadRun.getT s = s.abs.heap.get? from funext (HandSHeadRun.getT_eq s)]
def ex0B (K : PySem.W.Frag) (C : Addr) (newId : String) (bm : List Value) : Bool := PySem.W.excIn K C bm newId && PySem.W.keepIn K (.ref C) && decide (PySem.W.subIn K (.ref C) (.type "BaseException") = some true) && decide (PySem.W.typeIn K (.ref C) = some (.type "type"))
def clX (K : PySem.W.Frag) (f : Addr) : Addr := match K.lookup f with
  | some o => (match o.data with
    | .func z => (match z.closure with
      | [(_, c)] => c
      | _ => 0)
    | _ => 0)
  | none => 0
def xinB (K : PySem.W.Frag) (file : Str) (C : Addr) (f qn : Str) (B newId initId : String) (bm : List Value) : Bool :=
  PySem.W.excInitIn K C bm newId && PySem.W.excOver K C bm && He.eqO (PySem.W.takerIn K C f) (some none) && PySem.W.hasDictIn K C && He.eqO (PySem.W.findIn K (.ref C) "__setattr__") (some (some (.builtin "object.__setattr__"))) &&
  He.eqO (PySem.W.nsIn K PySem.cStatics "thirdparty.any") (some none) && He.eqO (PySem.W.ks_superIn K C C "__init__") (some (some (.builtin initId))) && decide (PySem.W.subIn K (.ref C) (.type B) = some true) && decide (PySem.W.mroIn K C (.ref C) = some true) &&
  He.eqO (PySem.W.findIn K (.ref C) "__init__") (some (some (.ref (atX K C "__init__")))) && decide (PySem.W.typeIn K (.ref (atX K C "__init__")) = some (.type "function")) && PySem.W.keepIn K (.ref C) &&
  decide (PySem.W.subIn K (.ref C) (.type "BaseException") = some true) && decide (PySem.W.typeIn K (.ref C) = some (.type "type"))
def xifB (K : PySem.W.Frag) (file : Str) (C : Addr) : Bool := match K.lookup (atX K C "__init__") with
  | some ⟨_, _, .func z, _⟩ => (match z.closure, z.code with
    | [(n, c)], .ref d => (n == ("__class__" : Str)) && (match K.lookup c with
      | some ⟨_, _, .cell (some (.ref C')), _⟩ => C' == C
      | _ => false) && (match K.lookup d with
      | some ⟨_, _, .fields vs, _⟩ => (match (vs[2]? : Option Value) with
        | some (.str fl _) => file == fl
        | _ => false)
      | _ => false)
    | _, _ => false)
  | _ => false
def cdB (K : PySem.W.Frag) (f : Addr) : Bool := match K.lookup f with
  | some ⟨_, _, .func z, _⟩ => (match z.code with
    | .ref _ => true
    | _ => false)
  | _ => false
def kindN : Nat → String
  | 0 => "int"
  | 1 => "bool"
  | 2 => "str"
  | 3 => "tuple"
  | 4 => "list"
  | 5 => "dict"
  | _ => "NoneType"
def isB (K : PySem.W.Frag) (A C : Addr) (b : Bool) : Bool := sclT K A && decide (PySem.W.kitOne K (.ref A) (.ref C) = some b)
where sclT (K : PySem.W.Frag) (A : Addr) : Bool := decide (PySem.W.findIn K (.ref A) "__class__" = some (some (.builtin "object.__class__"))) && decide (PySem.W.specialIn K (.builtin "object.__class__") "__get__" = some (some (.builtin "getset_descriptor.__get__"))) &&
  decide (PySem.W.takesIn K (.builtin "object.__class__") = some true) && decide (PySem.W.mroIn K A (.type "object") = some true)
def ikB (K : PySem.W.Frag) (C : Addr) : Bool := [0, 1, 2, 3, 4, 5, 6].all fun t => decide (PySem.W.kitOne K (.type (kindN t)) (.ref C) = some false)
def cmG (K : PySem.W.Frag) (C : Addr) (m : Str) : Addr := match PySem.W.recIn K (atX K C m) "classmethod" with
  | some (.ref g :: _) => g
  | _ => 0
def cmB (K : PySem.W.Frag) (C : Addr) (m : Str) : Bool := PySem.W.readsIn K C (.type "type") && He.eqO (PySem.W.specialIn K (.ref C) "__getattribute__") (some (some (.builtin "type.__getattribute__"))) && (match PySem.W.findCls K (.ref C) (.type "type") m with
  | some (.get (.builtin s) (.ref p) .none (.ref C')) => decide (s = "classmethod.__get__") && (p == atX K C m) && (C' == C)
  | _ => false) && (match PySem.W.recIn K (atX K C m) "classmethod" with
  | some (.ref _ :: _) => true
  | _ => false) && PySem.W.fnIn K (cmG K C m)
def iskB (K : PySem.W.Frag) (A : Addr) : Bool := isB.sclT K A && [0, 1, 2, 3, 4, 5].all fun t => decide (PySem.W.kitOne K (.ref A) (.type (kindN t)) = some false)
def tqL (l : List (Addr × Str)) : Addr → Option Str := fun P => l.lookup P
noncomputable def wq (p : Program) (M : Nat) (w : World) : Option (Shared × PySem.W.SharedT) := HandSHeadRun.wholeF (fun p => HandSHeadRun.stepQ (HandSHeadRun.denQ HandSHeadRun.tabQ) p w) HandSHeadRun.fenceQ M p
def TstY.fr (t : TstY) (x : Shared × PySem.W.SharedT) : PySem.W.Frag := He.frG (HandSHeadRun.getT x.2) t.ads
def partT (t : TstY) (n m : Nat) (x : Shared × PySem.W.SharedT) : Bool := (fun K => ((t.ts.drop n).take m).all fun f => f K) (t.fr x)
def partD (t : TstY) (x : Shared × PySem.W.SharedT) : (Bool × List He.FnW) := (fun K => (t.ds.all (okX K), t.ds.map (seeD K))) (t.fr x)
def partB (t : TstY) (x : Shared × PySem.W.SharedT) : Bool := (fun g K => t.tb.all fun f => isTab (g (tbX K (f K))) && (K.lookup (tbX K (f K))).isNone && PySem.W.codeHdIn K (cdX K (f K)) (tbX K (f K))) (HandSHeadRun.getT x.2) (t.fr x)
theorem map_one {α β γ : Type} {o : Option α} {f : α → β} {g : α → γ} {b : β} {c : γ} (h : o.map (fun x => (f x, g x)) = some (b, c)) : o.map f = some b ∧ o.map g = some c := by
  cases o with
  | none => cases h
  | some x =>
    have e : (f x, g x) = (b, c) := Option.some.inj h
    exact ⟨congrArg some (Prod.mk.inj e).1, congrArg some (Prod.mk.inj e).2⟩
theorem run_of {r : PySem.W.OpenRow} {q : Program} {t : TstY} {M : Nat} {loose : List PySem.Str} {w : World} (n : Nat)
    (h1 : (wq r.prog M w).map (fun x => (HandSHeadRun.looksF r.prog x.1.heap x.2.abs, HandSHeadRun.seenQ q loose (importedModules r.prog.main.body) (fun s => PySem.W.xlAt q [] s && PySem.W.recOk r.toRowW.records s) x.2.abs)) = some (true, PySem.W.openGood q loose))
    (h2 : (wq r.prog M w).map (partT t 0 n) = some true) (h3 : (wq r.prog M w).map (partT t n t.ts.length) = some true)
    (h4 : (wq r.prog M w).map (fun x => (partD t x, partB t x)) = some ((true, t.ds.map DfX.due), true)) : HandSHeadRun.RunEqI r q t.hook t.ob M loose w := by
  show (wq r.prog M w).map (fun x => (HandSHeadRun.looksF r.prog x.1.heap x.2.abs, HandSHeadRun.seenQ q loose (importedModules r.prog.main.body) (fun s => PySem.W.xlAt q [] s && PySem.W.recOk r.toRowW.records s) x.2.abs, t.ob x.2)) = some (true, PySem.W.openGood q loose, (t.x.due, true))
  obtain ⟨x, e, e1⟩ := Option.map_eq_some_iff.mp h1
  rw [e] at h2 h3 h4 ⊢
  have a2 : partT t 0 n x = true := Option.some.inj h2
  have a3 : partT t n t.ts.length x = true := Option.some.inj h3
  have a4 : (partD t x, partB t x) = ((true, t.ds.map DfX.due), true) := Option.some.inj h4
  obtain ⟨b1, b2⟩ := Prod.mk.inj e1
  obtain ⟨d1, d2⟩ := Prod.mk.inj a4
  have all : (t.ts.all fun f => f (t.fr x)) = true := by
    have e3 : t.ts = t.ts.take n ++ t.ts.drop n := (List.take_append_drop n t.ts).symm
    rw [e3, List.all_append]
    have z2 : ((t.ts.take n).all fun f => f (t.fr x)) = true := by
      have := a2
      unfold partT at this
      simpa using this
    have z3 : ((t.ts.drop n).all fun f => f (t.fr x)) = true := by
      have h := a3
      unfold partT at h
      rw [List.take_of_length_le (by rw [List.length_drop]; omega)] at h
      exact h
    rw [z2, z3]
    rfl
  have o1 : t.ob x.2 = (t.x.due, true) := by
    have g1 : t.ds.all (okX (t.fr x)) = true := (Prod.mk.inj d1).1
    have g2 : t.ds.map (seeD (t.fr x)) = t.ds.map DfX.due := (Prod.mk.inj d1).2
    show ((((t.ts.all fun f => f (t.fr x)) && t.ds.all (okX (t.fr x))), t.ds.map (seeD (t.fr x))), partB t x) = (t.x.due, true)
    rw [all, g1, g2, d2]
    rfl
  exact congrArg some (Prod.ext b1 (Prod.ext b2 o1))
end Dx

namespace K08
open PySem PySem.Spec PyProof.Rows L2 Dx
def top (i : Nat) : Stmt := PySem.Challenge.pw_lawseries_k08_rows_told.main.body.getD i (.Pass ⟨0, 0, 0, 0⟩)
def inC (s : Stmt) (i : Nat) : Stmt := match s with
  | .ClassDef _ _ _ b _ _ _ _ _ _ _ => b.getD i (.Pass ⟨0, 0, 0, 0⟩)
  | _ => .Pass ⟨0, 0, 0, 0⟩
abbrev s__law_dice : Stmt := top 53
abbrev s__law_roll : Stmt := top 54
abbrev s__law_pick : Stmt := top 55
abbrev s_Ratio___eq__ : Stmt := inC (top 19) 12
abbrev s_Row___eq__ : Stmt := inC (top 47) 23
abbrev s__law_are_whole : Stmt := top 58
abbrev s_Ratio_top : Stmt := inC (top 19) 3
abbrev s_Ratio_bottom : Stmt := inC (top 19) 4
abbrev s_Row_entries : Stmt := inC (top 47) 3
abbrev s__law_pairs_of : Stmt := top 59
abbrev s_is_plain : Stmt := top 14
abbrev s_is_short : Stmt := top 15
abbrev s_Terms_init : Stmt := inC (top 16) 1
abbrev s_terms_of : Stmt := top 17
abbrev s_told_terms : Stmt := top 18
abbrev s_Ratio_init : Stmt := inC (top 19) 1
abbrev s_ratio_of : Stmt := top 20
abbrev s_line_of : Stmt := top 28
abbrev s_line_of_pairs : Stmt := top 35
abbrev s_is_integer : Stmt := top 25
abbrev s_require_modulus : Stmt := top 39
abbrev s_is_number : Stmt := top 40
abbrev s_number_pair : Stmt := top 41
abbrev s_is_number_of : Stmt := top 42
abbrev s_line_told : Stmt := top 44
abbrev s_Row_init : Stmt := inC (top 47) 1
abbrev s__law_rw_made : Stmt := top 60
abbrev s__law_gcd : Stmt := top 56
abbrev s__law_ratio : Stmt := top 57
abbrev s__law_rw_fraction : Stmt := top 61
abbrev s__law_rw_drawn : Stmt := top 62
abbrev s_Ratio___str__ : Stmt := inC (top 19) 13
abbrev s_term_text : Stmt := top 45
abbrev s_row_text : Stmt := top 46
abbrev s_Row___str__ : Stmt := inC (top 47) 26
abbrev s__law_rw_text : Stmt := top 63
abbrev s_Row_whole : Stmt := inC (top 47) 9
abbrev s__law_whole : Stmt := top 64
abbrev s_Row_degree : Stmt := inC (top 47) 4
abbrev s_Row_modulus : Stmt := inC (top 47) 5
abbrev s_Row_order : Stmt := inC (top 47) 6
abbrev s_Row_is_whole : Stmt := inC (top 47) 7
abbrev s_require_count : Stmt := top 26
abbrev s_Row_at : Stmt := inC (top 47) 8
abbrev s_Row___len__ : Stmt := inC (top 47) 24
abbrev s_Row___iter__ : Stmt := inC (top 47) 25
abbrev s__law_fractions_right : Stmt := top 65
abbrev s__law_residues_right : Stmt := top 66
abbrev s_Made_init : Stmt := inC (top 43) 1
abbrev s_Row_plain : Stmt := inC (top 47) 2
abbrev s_law : Stmt := top 67
abbrev sx_InvalidCount : Stmt := inC (top 9) 0
def tqK (K : PySem.W.Frag) : List (Addr × Str) := []
def csK (K : PySem.W.Frag) : List (Addr × Addr) := [(cdX K (atX K (He.ga K "Row") "__init__"), tbX K (atX K (He.ga K "Row") "__init__"))]
def tgK (K : PySem.W.Frag) : List Addr := [tbX K (atX K (He.ga K "Row") "__init__")]
def ads : List Addr := [3, 6, 4, 49, 59, 72, 84, 96, 108, 129, 150, 160, 167, 186, 197, 204, 314, 326, 333, 338, 345, 352, 359, 364, 369, 376, 383, 390, 395, 402, 407, 414, 421, 428, 435, 454, 462, 469, 476, 678, 692, 700, 707, 714, 721, 728, 735, 742, 749, 754, 759, 764, 771, 776, 783, 790, 795, 800, 807, 0, 48, 58, 71, 83, 95, 107, 128, 149, 159, 166, 185, 196, 203, 313, 325, 319, 332, 337, 344, 351, 358, 363, 368, 375, 382, 389, 394, 401, 406, 413, 420, 427, 434, 453, 461, 468, 475, 677, 691, 699, 693, 706, 713, 720, 727, 734, 741, 748, 753, 758, 763, 770, 775, 782, 789, 794, 799, 806, 43, 44, 45, 46, 47, 57, 60, 70, 82, 94, 106, 126, 127, 147, 148, 151, 154, 155, 156, 157, 158, 161, 162, 163, 164, 165, 175, 182, 183, 187, 188, 191, 192, 193, 194, 195, 198, 199, 200, 201, 202, 212, 220, 229, 238, 246, 254, 261, 268, 275, 282, 289, 296, 303, 310, 311, 315, 316, 320, 321, 322, 323, 324, 327, 328, 329, 330, 331, 334, 335, 336, 339, 340, 341, 342, 343, 346, 347, 348, 349, 350, 353, 354, 355, 356, 357, 360, 361, 362, 365, 366, 367, 370, 371, 372, 373, 374, 377, 378, 379, 380, 381, 384, 385, 386, 387, 388, 391, 392, 393, 396, 397, 398, 399, 400, 403, 404, 405, 408, 409, 410, 411, 412, 415, 416, 417, 418, 419, 422, 423, 424, 425, 426, 429, 430, 431, 432, 433, 443, 450, 451, 455, 458, 459, 460, 463, 464, 465, 466, 467, 470, 471, 472, 473, 474, 484, 490, 500, 509, 517, 525, 533, 541, 548, 555, 562, 569, 576, 583, 590, 597, 604, 611, 618, 625, 632, 639, 646, 653, 660, 667, 674, 675, 679, 680, 681, 682, 683, 686, 687, 688, 689, 690, 694, 695, 696, 697, 698, 701, 702, 703, 704, 705, 708, 709, 710, 711, 712, 715, 716, 717, 718, 719, 722, 723, 724, 725, 726, 729, 730, 731, 732, 733, 736, 737, 738, 739, 740, 743, 744, 745, 746, 747, 750, 751, 752, 755, 756, 757, 760, 761, 762, 765, 766, 767, 768, 769, 772, 773, 774, 777, 778, 779, 780, 781, 784, 785, 786, 787, 788, 791, 792, 793, 796, 797, 798, 801, 802, 803, 804, 805, 125, 114, 146, 135, 181, 219, 213, 227, 228, 237, 245, 253, 260, 267, 274, 281, 288, 295, 302, 309, 449, 489, 485, 498, 499, 508, 516, 524, 532, 540, 547, 554, 561, 568, 575, 582, 589, 596, 603, 610, 617, 624, 631, 638, 645, 652, 659, 666, 673, 120, 121, 122, 123, 124, 141, 142, 143, 144, 145, 176, 177, 178, 179, 180, 214, 215, 216, 217, 218, 226, 230, 236, 244, 252, 255, 256, 257, 258, 259, 262, 263, 264, 265, 266, 269, 270, 271, 272, 273, 276, 277, 278, 279, 280, 283, 284, 285, 286, 287, 290, 291, 292, 293, 294, 297, 298, 299, 300, 301, 304, 305, 306, 307, 308, 444, 445, 446, 447, 448, 486, 488, 497, 491, 501, 507, 515, 523, 531, 539, 542, 543, 544, 545, 546, 549, 550, 551, 552, 553, 556, 557, 558, 559, 560, 563, 564, 565, 566, 567, 570, 571, 572, 573, 574, 577, 578, 579, 580, 581, 584, 585, 586, 587, 588, 591, 592, 593, 594, 595, 598, 599, 600, 601, 602, 605, 606, 607, 608, 609, 612, 613, 614, 615, 616, 619, 620, 621, 622, 623, 626, 627, 628, 629, 630, 633, 634, 635, 636, 637, 640, 641, 642, 643, 644, 647, 648, 649, 650, 651, 654, 655, 656, 657, 658, 661, 662, 663, 664, 665, 668, 669, 670, 671, 672, 221, 222, 223, 224, 225, 231, 232, 233, 234, 235, 239, 240, 241, 242, 243, 247, 248, 249, 250, 251, 492, 493, 494, 495, 496, 502, 503, 504, 505, 506, 510, 511, 512, 513, 514, 518, 519, 520, 521, 522, 526, 527, 528, 529, 530, 534, 535, 536, 537, 538, 2]
def tst : TstY := ⟨[fun K => (He.Fa.int "FAR" (1000000000000000000000000000000000000000000000000000000000000)).ok K,
   fun K => (He.Fa.int "MAX_ROW" (24)).ok K,
   fun K => (He.Fa.int "MOST_MODULUS" (10000)).ok K,
   fun K => (He.Fa.free "abs").ok K,
   fun K => (He.Fa.free "all").ok K,
   fun K => (He.Fa.free "bool").ok K,
   fun K => (He.Fa.free "enumerate").ok K,
   fun K => He.eqO (PySem.W.nsIn K mainGlobals "gcd") (some (some (.builtin "math.gcd"))),
   fun K => (He.Fa.free "int").ok K,
   fun K => (He.Fa.free "isinstance").ok K,
   fun K => (He.Fa.free "iter").ok K,
   fun K => (He.Fa.free "len").ok K,
   fun K => (He.Fa.free "list").ok K,
   fun K => (He.Fa.free "max").ok K,
   fun K => (He.Fa.free "min").ok K,
   fun K => (He.Fa.free "next").ok K,
   fun K => (He.Fa.free "range").ok K,
   fun K => (He.Fa.free "str").ok K,
   fun K => (He.Fa.free "tuple").ok K,
   fun K => cdB K (atX K (He.ga K "Row") "__init__"),
   fun K => decide (tqL (tqK K) (tbX K (atX K (He.ga K "Row") "__init__")) = none),
   fun K => (He.Fa.glo "_law_roll").ok K,
   fun K => (He.Fa.glo "Ratio").ok K,
   fun K => ikB K (He.ga K "Ratio"),
   fun K => isB K (He.ga K "Terms") (He.ga K "Ratio") false,
   fun K => sclB K (He.ga K "Terms"),
   fun K => isB K (He.ga K "Ratio") (He.ga K "Ratio") true,
   fun K => sclB K (He.ga K "Ratio"),
   fun K => isB K (He.ga K "Made") (He.ga K "Ratio") false,
   fun K => sclB K (He.ga K "Made"),
   fun K => isB K (He.ga K "Row") (He.ga K "Ratio") false,
   fun K => sclB K (He.ga K "Row"),
   fun K => slB K (He.ga K "Terms") "own_bottom" 0,
   fun K => slB K (He.ga K "Ratio") "own_bottom" 0,
   fun K => slB K (He.ga K "Row") "own_bottom" 0,
   fun K => slB K (He.ga K "Terms") "own_top" 1,
   fun K => slB K (He.ga K "Ratio") "own_top" 1,
   fun K => (He.Fa.glo "Row").ok K,
   fun K => ikB K (He.ga K "Row"),
   fun K => isB K (He.ga K "Terms") (He.ga K "Row") false,
   fun K => isB K (He.ga K "Ratio") (He.ga K "Row") false,
   fun K => isB K (He.ga K "Made") (He.ga K "Row") false,
   fun K => isB K (He.ga K "Row") (He.ga K "Row") true,
   fun K => slB K (He.ga K "Row") "own_modulus" 2,
   fun K => slB K (He.ga K "Row") "own_tops" 4,
   fun K => He.eqO (PySem.W.findIn K (.ref (He.ga K "Ratio")) "__eq__") (some (some (.ref (atX K (He.ga K "Ratio") "__eq__")))),
   fun K => PySem.W.isFn K (.ref (atX K (He.ga K "Ratio") "__eq__")),
   fun K => decide (PySem.W.mroIn K (He.ga K "Ratio") (.type "object") = some true),
   fun K => He.eqO (PySem.W.findIn K (.ref (He.ga K "Ratio")) "__ne__") (some (some (.builtin "object.__ne__"))),
   fun K => PySem.W.notFirst K (He.ga K "Ratio") (.ref (He.ga K "Terms")),
   fun K => PySem.W.notFirst K (He.ga K "Ratio") (.ref (He.ga K "Ratio")),
   fun K => PySem.W.notFirst K (He.ga K "Ratio") (.ref (He.ga K "Made")),
   fun K => PySem.W.notFirst K (He.ga K "Ratio") (.ref (He.ga K "Row")),
   fun K => He.eqO (PySem.W.findIn K (.ref (He.ga K "Row")) "__eq__") (some (some (.ref (atX K (He.ga K "Row") "__eq__")))),
   fun K => PySem.W.isFn K (.ref (atX K (He.ga K "Row") "__eq__")),
   fun K => decide (PySem.W.mroIn K (He.ga K "Row") (.type "object") = some true),
   fun K => He.eqO (PySem.W.findIn K (.ref (He.ga K "Row")) "__ne__") (some (some (.builtin "object.__ne__"))),
   fun K => PySem.W.notFirst K (He.ga K "Row") (.ref (He.ga K "Terms")),
   fun K => PySem.W.notFirst K (He.ga K "Row") (.ref (He.ga K "Ratio")),
   fun K => PySem.W.notFirst K (He.ga K "Row") (.ref (He.ga K "Made")),
   fun K => PySem.W.notFirst K (He.ga K "Row") (.ref (He.ga K "Row")),
   fun K => slB K (He.ga K "Row") "own_entries" 1,
   fun K => pvB K (He.ga K "Ratio") "bottom",
   fun K => pvB K (He.ga K "Row") "entries",
   fun K => pvB K (He.ga K "Ratio") "top",
   fun K => iskB K (He.ga K "Terms"),
   fun K => iskB K (He.ga K "Ratio"),
   fun K => iskB K (He.ga K "Made"),
   fun K => iskB K (He.ga K "Row"),
   fun K => (He.Fa.glo "is_plain").ok K,
   fun K => mkB K (He.ga K "Terms"),
   fun K => (He.Fa.glo "Terms").ok K,
   fun K => (He.Fa.glo "is_short").ok K,
   fun K => (He.Fa.glo "terms_of").ok K,
   fun K => ikB K (He.ga K "Terms"),
   fun K => isB K (He.ga K "Terms") (He.ga K "Terms") true,
   fun K => isB K (He.ga K "Ratio") (He.ga K "Terms") false,
   fun K => isB K (He.ga K "Made") (He.ga K "Terms") false,
   fun K => isB K (He.ga K "Row") (He.ga K "Terms") false,
   fun K => (He.Fa.glo "InvalidCount").ok K,
   fun K => (He.Fa.free "super").ok K,
   fun K => xinB K (PySem.Challenge.pw_lawseries_k08_rows_told).main.file (He.ga K "InvalidCount") "value" "InvalidCount.__init__"  "IndexError" "IndexError.__new__" "IndexError.__init__" [.type "IndexError", .type "LookupError", .type "Exception", .type "BaseException", .type "object"],
   fun K => xifB K (PySem.Challenge.pw_lawseries_k08_rows_told).main.file (He.ga K "InvalidCount"),
   fun K => (He.Fa.glo "told_terms").ok K,
   fun K => mkB K (He.ga K "Ratio"),
   fun K => (He.Fa.glo "line_of").ok K,
   fun K => (He.Fa.glo "is_integer").ok K,
   fun K => (He.Fa.glo "InvalidModulus").ok K,
   fun K => ex0B K (He.ga K "InvalidModulus") "ValueError.__new__" [.type "ValueError", .type "Exception", .type "BaseException", .type "object"],
   fun K => (He.Fa.glo "is_number").ok K,
   fun K => (He.Fa.glo "is_number_of").ok K,
   fun K => (He.Fa.glo "line_of_pairs").ok K,
   fun K => (He.Fa.glo "number_pair").ok K,
   fun K => (He.Fa.glo "require_modulus").ok K,
   fun K => (He.Fa.glo "Made").ok K,
   fun K => ikB K (He.ga K "Made"),
   fun K => isB K (He.ga K "Terms") (He.ga K "Made") false,
   fun K => isB K (He.ga K "Ratio") (He.ga K "Made") false,
   fun K => isB K (He.ga K "Made") (He.ga K "Made") true,
   fun K => isB K (He.ga K "Row") (He.ga K "Made") false,
   fun K => (He.Fa.glo "InvalidRow").ok K,
   fun K => ex0B K (He.ga K "InvalidRow") "ValueError.__new__" [.type "ValueError", .type "Exception", .type "BaseException", .type "object"],
   fun K => slB K (He.ga K "Made") "own_line" 0,
   fun K => (He.Fa.glo "line_told").ok K,
   fun K => (He.Fa.glo "ratio_of").ok K,
   fun K => slB K (He.ga K "Row") "own_order" 3,
   fun K => mkB K (He.ga K "Row"),
   fun K => (He.Fa.glo "_law_gcd").ok K,
   fun K => (He.Fa.glo "_law_pick").ok K,
   fun K => (He.Fa.glo "_law_ratio").ok K,
   fun K => (He.Fa.glo "_law_rw_fraction").ok K,
   fun K => (He.Fa.glo "term_text").ok K,
   fun K => (He.Fa.glo "row_text").ok K,
   fun K => He.eqO (PySem.W.findIn K (.ref (He.ga K "Ratio")) "__str__") (some (some (.ref (atX K (He.ga K "Ratio") "__str__")))),
   fun K => PySem.W.isFn K (.ref (atX K (He.ga K "Ratio") "__str__")),
   fun K => He.eqO (PySem.W.findIn K (.ref (He.ga K "Row")) "__str__") (some (some (.ref (atX K (He.ga K "Row") "__str__")))),
   fun K => PySem.W.isFn K (.ref (atX K (He.ga K "Row") "__str__")),
   fun K => (He.Fa.glo "InvalidOperation").ok K,
   fun K => ex0B K (He.ga K "InvalidOperation") "ValueError.__new__" [.type "ValueError", .type "Exception", .type "BaseException", .type "object"],
   fun K => meB K (He.ga K "Row") "whole",
   fun K => decide (PySem.W.exmOne K (.ref (He.ga K "InvalidModulus")) (.ref (He.ga K "InvalidOperation")) = some false),
   fun K => decide (PySem.W.exmOne K (.ref (He.ga K "InvalidRow")) (.ref (He.ga K "InvalidOperation")) = some false),
   fun K => decide (PySem.W.exmOne K (.ref (He.ga K "InvalidOperation")) (.ref (He.ga K "InvalidOperation")) = some true),
   fun K => decide (PySem.W.exmOne K (.ref (He.ga K "InvalidCount")) (.ref (He.ga K "InvalidOperation")) = some false),
   fun K => (He.Fa.glo "require_count").ok K,
   fun K => (He.Fa.glo "_law_are_whole").ok K,
   fun K => (He.Fa.glo "_law_pairs_of").ok K,
   fun K => (He.Fa.glo "_law_rw_drawn").ok K,
   fun K => (He.Fa.glo "_law_rw_made").ok K,
   fun K => (He.Fa.glo "_law_rw_text").ok K,
   fun K => (He.Fa.glo "_law_whole").ok K,
   fun K => meB K (He.ga K "Row") "at",
   fun K => He.eqO (PySem.W.findIn K (.ref (He.ga K "Row")) "__iter__") (some (some (.ref (atX K (He.ga K "Row") "__iter__")))),
   fun K => PySem.W.isFn K (.ref (atX K (He.ga K "Row") "__iter__")),
   fun K => He.eqO (PySem.W.findIn K (.ref (He.ga K "Row")) "__len__") (some (some (.ref (atX K (He.ga K "Row") "__len__")))),
   fun K => PySem.W.isFn K (.ref (atX K (He.ga K "Row") "__len__")),
   fun K => pvB K (He.ga K "Row") "degree",
   fun K => pvB K (He.ga K "Row") "is_whole",
   fun K => pvB K (He.ga K "Row") "modulus",
   fun K => pvB K (He.ga K "Row") "order",
   fun K => mkB K (He.ga K "Made"),
   fun K => cmB K (He.ga K "Row") "plain",
   fun K => (He.Fa.glo "_law_dice").ok K,
   fun K => (He.Fa.glo "_law_fractions_right").ok K,
   fun K => (He.Fa.glo "_law_residues_right").ok K,
   fun K => (He.Fa.glo "law").ok K],
  [⟨fun K => He.ga K "_law_dice", "_law_dice", "_law_dice", s__law_dice, false, [], []⟩,
   ⟨fun K => He.ga K "_law_roll", "_law_roll", "_law_roll", s__law_roll, false, [], []⟩,
   ⟨fun K => He.ga K "_law_pick", "_law_pick", "_law_pick", s__law_pick, false, [], []⟩,
   ⟨fun K => atX K (He.ga K "Ratio") "__eq__", "__eq__", "Ratio.__eq__", s_Ratio___eq__, false, [], []⟩,
   ⟨fun K => atX K (He.ga K "Row") "__eq__", "__eq__", "Row.__eq__", s_Row___eq__, false, [], []⟩,
   ⟨fun K => He.ga K "_law_are_whole", "_law_are_whole", "_law_are_whole", s__law_are_whole, false, [], []⟩,
   ⟨fun K => prX K (He.ga K "Ratio") "top", "top", "Ratio.top", s_Ratio_top, false, [], []⟩,
   ⟨fun K => prX K (He.ga K "Ratio") "bottom", "bottom", "Ratio.bottom", s_Ratio_bottom, false, [], []⟩,
   ⟨fun K => prX K (He.ga K "Row") "entries", "entries", "Row.entries", s_Row_entries, false, [], []⟩,
   ⟨fun K => He.ga K "_law_pairs_of", "_law_pairs_of", "_law_pairs_of", s__law_pairs_of, false, [], []⟩,
   ⟨fun K => He.ga K "is_plain", "is_plain", "is_plain", s_is_plain, false, [], []⟩,
   ⟨fun K => He.ga K "is_short", "is_short", "is_short", s_is_short, false, [], []⟩,
   ⟨fun K => atX K (He.ga K "Terms") "__init__", "__init__", "Terms.__init__", s_Terms_init, false, [], []⟩,
   ⟨fun K => He.ga K "terms_of", "terms_of", "terms_of", s_terms_of, false, [], []⟩,
   ⟨fun K => He.ga K "told_terms", "told_terms", "told_terms", s_told_terms, false, [], []⟩,
   ⟨fun K => atX K (He.ga K "Ratio") "__init__", "__init__", "Ratio.__init__", s_Ratio_init, false, [(.int (1))], []⟩,
   ⟨fun K => He.ga K "ratio_of", "ratio_of", "ratio_of", s_ratio_of, false, [(.int (1))], []⟩,
   ⟨fun K => He.ga K "line_of", "line_of", "line_of", s_line_of, false, [], []⟩,
   ⟨fun K => He.ga K "line_of_pairs", "line_of_pairs", "line_of_pairs", s_line_of_pairs, false, [], []⟩,
   ⟨fun K => He.ga K "is_integer", "is_integer", "is_integer", s_is_integer, false, [], []⟩,
   ⟨fun K => He.ga K "require_modulus", "require_modulus", "require_modulus", s_require_modulus, false, [], []⟩,
   ⟨fun K => He.ga K "is_number", "is_number", "is_number", s_is_number, false, [], []⟩,
   ⟨fun K => He.ga K "number_pair", "number_pair", "number_pair", s_number_pair, false, [], []⟩,
   ⟨fun K => He.ga K "is_number_of", "is_number_of", "is_number_of", s_is_number_of, false, [], []⟩,
   ⟨fun K => He.ga K "line_told", "line_told", "line_told", s_line_told, false, [], []⟩,
   ⟨fun K => atX K (He.ga K "Row") "__init__", "__init__", "Row.__init__", s_Row_init, false, [], [("modulus", (.int (0)))]⟩,
   ⟨fun K => He.ga K "_law_rw_made", "_law_rw_made", "_law_rw_made", s__law_rw_made, false, [], []⟩,
   ⟨fun K => He.ga K "_law_gcd", "_law_gcd", "_law_gcd", s__law_gcd, false, [], []⟩,
   ⟨fun K => He.ga K "_law_ratio", "_law_ratio", "_law_ratio", s__law_ratio, false, [], []⟩,
   ⟨fun K => He.ga K "_law_rw_fraction", "_law_rw_fraction", "_law_rw_fraction", s__law_rw_fraction, false, [], []⟩,
   ⟨fun K => He.ga K "_law_rw_drawn", "_law_rw_drawn", "_law_rw_drawn", s__law_rw_drawn, false, [], []⟩,
   ⟨fun K => atX K (He.ga K "Ratio") "__str__", "__str__", "Ratio.__str__", s_Ratio___str__, false, [], []⟩,
   ⟨fun K => He.ga K "term_text", "term_text", "term_text", s_term_text, false, [], []⟩,
   ⟨fun K => He.ga K "row_text", "row_text", "row_text", s_row_text, false, [], []⟩,
   ⟨fun K => atX K (He.ga K "Row") "__str__", "__str__", "Row.__str__", s_Row___str__, false, [], []⟩,
   ⟨fun K => He.ga K "_law_rw_text", "_law_rw_text", "_law_rw_text", s__law_rw_text, false, [], []⟩,
   ⟨fun K => atX K (He.ga K "Row") "whole", "whole", "Row.whole", s_Row_whole, false, [], []⟩,
   ⟨fun K => He.ga K "_law_whole", "_law_whole", "_law_whole", s__law_whole, false, [], []⟩,
   ⟨fun K => prX K (He.ga K "Row") "degree", "degree", "Row.degree", s_Row_degree, false, [], []⟩,
   ⟨fun K => prX K (He.ga K "Row") "modulus", "modulus", "Row.modulus", s_Row_modulus, false, [], []⟩,
   ⟨fun K => prX K (He.ga K "Row") "order", "order", "Row.order", s_Row_order, false, [], []⟩,
   ⟨fun K => prX K (He.ga K "Row") "is_whole", "is_whole", "Row.is_whole", s_Row_is_whole, false, [], []⟩,
   ⟨fun K => He.ga K "require_count", "require_count", "require_count", s_require_count, false, [], []⟩,
   ⟨fun K => atX K (He.ga K "Row") "at", "at", "Row.at", s_Row_at, false, [], []⟩,
   ⟨fun K => atX K (He.ga K "Row") "__len__", "__len__", "Row.__len__", s_Row___len__, false, [], []⟩,
   ⟨fun K => atX K (He.ga K "Row") "__iter__", "__iter__", "Row.__iter__", s_Row___iter__, false, [], []⟩,
   ⟨fun K => He.ga K "_law_fractions_right", "_law_fractions_right", "_law_fractions_right", s__law_fractions_right, false, [], []⟩,
   ⟨fun K => He.ga K "_law_residues_right", "_law_residues_right", "_law_residues_right", s__law_residues_right, false, [], []⟩,
   ⟨fun K => atX K (He.ga K "Made") "__init__", "__init__", "Made.__init__", s_Made_init, false, [], []⟩,
   ⟨fun K => cmG K (He.ga K "Row") "plain", "plain", "Row.plain", s_Row_plain, false, [], [("modulus", (.int (0)))]⟩,
   ⟨fun K => He.ga K "law", "law", "law", s_law, false, [], []⟩,
   ⟨fun K => atX K (He.ga K "InvalidCount") "__init__", "__init__", "InvalidCount.__init__", sx_InvalidCount, true, [], []⟩],
  [fun K => atX K (He.ga K "Row") "__init__"], ads⟩
end K08

namespace K08
open PySem PySem.Spec PyProof.Rows L2 Dx
abbrev Rr : PySem.W.OpenRow := PySem.W.OpenLaw.row PySem.Challenge.rw_lawseries_k08_rows_told
abbrev qv : Program := PySem.W.view Rr.prog [0, 67]
def loose0 : List PySem.Str := ["_wall", "SeriesError", "InvalidRatio", "InvalidModulus", "InvalidRow", "InvalidOperation", "ParseError", "InvalidCount", "MAX_FIGURES", "FIGURES", "FAR", "is_plain", "is_short", "Terms", "terms_of"]
def loose1 : List PySem.Str := ["told_terms", "Ratio", "ratio_of", "pair_of", "figures_of", "parts_of", "is_integer", "require_count", "line_of", "line_scaled", "line_times", "line_one", "inverse_in", "line_reciprocal", "line_power"]
def loose2 : List PySem.Str := ["line_of_pairs", "MAX_ROW", "MOST_MODULUS", "require_modulus", "is_number", "number_pair", "is_number_of", "Made", "line_told", "term_text", "row_text", "Row", "line_in", "row_with", "is_unit_in"]
def loose3 : List PySem.Str := ["require_unit_at", "_law_dice", "_law_roll", "_law_pick", "_law_gcd", "_law_ratio", "_law_are_whole", "_law_pairs_of", "_law_rw_made", "_law_rw_fraction", "_law_rw_drawn", "_law_rw_text", "_law_whole", "_law_fractions_right", "_law_residues_right"]
def loose : List PySem.Str := loose0 ++ loose1 ++ loose2 ++ loose3
theorem run14 (w : World) : (wq Rr.prog 20000 w).map (fun x => ((HandSHeadRun.looksF Rr.prog x.1.heap x.2.abs, HandSHeadRun.seenQ qv loose (importedModules Rr.prog.main.body) (fun s => PySem.W.xlAt qv [] s && PySem.W.recOk Rr.toRowW.records s) x.2.abs), (partD tst x, partB tst x))) = some ((true, PySem.W.openGood qv loose), ((true, tst.ds.map DfX.due), true)) := by kernel_rfl
theorem run23 (w : World) : (wq Rr.prog 20000 w).map (fun x => (partT tst 0 73 x, partT tst 73 tst.ts.length x)) = some (true, true) := by kernel_rfl
theorem run1 (w : World) : (wq Rr.prog 20000 w).map (fun x => (HandSHeadRun.looksF Rr.prog x.1.heap x.2.abs, HandSHeadRun.seenQ qv loose (importedModules Rr.prog.main.body) (fun s => PySem.W.xlAt qv [] s && PySem.W.recOk Rr.toRowW.records s) x.2.abs)) = some (true, PySem.W.openGood qv loose) := (map_one (run14 w)).1
theorem run4 (w : World) : (wq Rr.prog 20000 w).map (fun x => (partD tst x, partB tst x)) = some ((true, tst.ds.map DfX.due), true) := (map_one (run14 w)).2
theorem run2 (w : World) : (wq Rr.prog 20000 w).map (partT tst 0 73) = some true := (map_one (run23 w)).1
theorem run3 (w : World) : (wq Rr.prog 20000 w).map (partT tst 73 tst.ts.length) = some true := (map_one (run23 w)).2
theorem run (w : World) : HandSHeadRun.RunEqI Rr qv tst.hook tst.ob 20000 loose w := run_of 73 (run1 w) (run2 w) (run3 w) (run4 w)
end K08

namespace Dx
open PySem PySem.Spec PyProof.Rows L2

structure Room (k : Nat) (A : Around) : Prop extends L2.Room k A where
  gd : 100 ≤ k → A.guards = some []
theorem Room.mono {j k : Nat} {A : Around} (r : Room k A) (h : j ≤ k) : Room j A := ⟨L2.Room.mono r.toRoom h, fun z => r.gd (Nat.le_trans z h)⟩
theorem Room.deeper {k : Nat} {A : Around} (r : Room (k + 1) A) (env : Env) : Room k (A.deeper env) := ⟨L2.Room.deeper r.toRoom env, fun z => r.gd (Nat.le_succ_of_le z)⟩
theorem Room.in1 {k : Nat} {A : Around} (r : Room (k + 1) A) : Room k A.in1 := ⟨L2.Room.in1 r.toRoom, fun z => r.gd (Nat.le_succ_of_le z)⟩
theorem make_guards {A : Around} {C : Addr} {us : List Value} {kw : List (Str × Value)} : (A.under (.builtin "type.__call__" ⟨.ref C :: us, kw⟩)).guards = A.guards := by
  first | rfl | simp [Around.under, Code.guards, Code.isGuard, pushGuards, guardIds]
theorem Room.make {k : Nat} {A : Around} (r : Room (k + 1) A) (C : Addr) (us : List Value) (kw : List (Str × Value)) : Room k (A.under (.builtin "type.__call__" ⟨.ref C :: us, kw⟩)) :=
  ⟨L2.Room.make r.toRoom C us kw, fun z => by rw [make_guards]; exact r.gd (Nat.le_succ_of_le z)⟩
theorem Room.depth {k : Nat} {A : Around} (r : Room k A) : A.depth < recursionLimit := L2.Room.depth r.toRoom
theorem Room.units {k : Nat} {A : Around} (r : Room k A) : A.units + 64 < cLine := L2.Room.units r.toRoom
theorem Room.units0 {k : Nat} {A : Around} (r : Room k A) : A.units < cLine := L2.Room.units0 r.toRoom

structure FnOk (P : Program) (w : World) (K : PySem.W.Frag) (mg : Str → Option Value) (base : Heap) (CX : CXT) (k : Nat)
    (f : Addr) (fd : FuncData) (ps : List Str) (sp : Sp) : Prop where
  len : ∀ vs H Q E, sp vs H Q E → vs.length = ps.length
  run : ∀ (A : Around) (outer : List Env) (s : Shared) (H : Hp) (args : Args) (us : List Value) (vs : List V) (Q : VK) (E : XK), Room k A →
    Env0 P w K mg base A outer s H → BindsTo s fd args (ps.zip us) → Vals vs us → sp vs H Q E → codeAny (model P w) A (.call (.ref f) args) (CR CX outer P w H s Q E) s
def FnR (P : Program) (w : World) (K : PySem.W.Frag) (mg : Str → Option Value) (base : Heap) (CX : CXT) (k : Nat)
    (f : Addr) (sp : Sp) : Prop := ∀ (A : Around) (outer : List Env) (s : Shared) (H : Hp) (us : List Value) (vs : List V) (Q : VK) (E : XK), Room k A →
  Env0 P w K mg base A outer s H → Vals vs us → sp vs H Q E → codeAny (model P w) A (.call (.ref f) ⟨us, []⟩) (CR CX outer P w H s Q E) s
section
variable {P : Program} {w : World} {K : PySem.W.Frag} {mg : Str → Option Value} {base : Heap} {CX : CXT} {j k : Nat} {f : Addr} {fd : FuncData} {ps : List Str} {sp sp' : Sp}
theorem FnOk.mono (F : FnOk P w K mg base CX j f fd ps sp) (h : j ≤ k) : FnOk P w K mg base CX k f fd ps sp :=
  ⟨F.len, fun A outer s H args us vs Q E room => F.run A outer s H args us vs Q E (room.mono h)⟩
theorem FnR.mono (F : FnR P w K mg base CX j f sp) (h : j ≤ k) : FnR P w K mg base CX k f sp := fun A outer s H us vs Q E room => F A outer s H us vs Q E (room.mono h)
theorem FnR.imp (F : FnR P w K mg base CX k f sp) (hi : ∀ vs H Q E, sp' vs H Q E → sp vs H Q E) : FnR P w K mg base CX k f sp' :=
  fun A outer s H us vs Q E room e r q => F A outer s H us vs Q E room e r (hi _ _ _ _ q)
theorem FnOk.raw {ds : List Value} {dvs : List V} (F : FnOk P w K mg base CX k f fd ps sp) (hb : L2.Binds K fd ps ds) (hd : Vals dvs ds) :
    FnR P w K mg base CX k f (fun vs H Q E => sp (vs ++ dvs) H Q E) := fun A outer s H us vs Q E room e r q => by
  have both : Vals (vs ++ dvs) (us ++ ds) := r.append hd
  refine F.run A outer s H ⟨us, []⟩ _ _ Q E room e (hb s us (e.mod.kin.keeps fun b o hbo => (e.bs b o hbo).1) ?_) both q
  rw [← both.length, F.len _ _ _ _ q]
end
section
variable {CX : CXT} {P : Program} {w : World} {K : PySem.W.Frag} {mg : Str → Option Value} {base : Heap} {k : Nat} {f : Addr} {name qual : Str} {params : Arguments} {body : List Stmt} {scope : Scope} {dV kV doc pm cdv ct oc : Value} {an od : Option Addr}
  {osl : Array (Option Value)} {N ps : List Str} {sp : Sp}
theorem fn_of (hf : K.lookup f = some ⟨oc, od, .func (PySem.W.fnOf name qual params body scope dV kV doc pm an cdv ct), osl⟩) (hc : PySem.W.codeIn K cdv qual = true) (S : FnScope N ps scope)
    (len : ∀ vs H Q E, sp vs H Q E → vs.length = ps.length)
    (hb : ∀ (A : Around) (outer : List Env) (s : Shared) (H : Hp) (vs : List V) (Q : VK) (E : XK), Room k (A.deeper (envOfC qual scope s.heap.objs.size f cdv)) → sp vs H Q E →
      ∃ t, PSs (cxOf CX P w K mg base N qual scope f cdv A outer s H E) body t ∧ t { nx := fun _ H' => Q .non H', rt := Q } (start N vs) H) :
    FnOk P w K mg base CX (k + 1) f (PySem.W.fnOf name qual params body scope dV kV doc pm an cdv ct) ps sp where
  len := len
  run := fun A outer s H args us vs Q E room e0 bind rel q => by
    obtain ⟨t, body_t, wish⟩ := hb A outer s H vs Q E (room.deeper _) q
    have inH : K.In s.heap := e0.mod.kin.keeps fun b o z => (e0.bs b o z).1
    have nol := e0.mod.nolimit.keeps fun b o z => (e0.bs b o z).1
    have kinds : ∀ y ∈ ps.zip us, scope.names.lookup y.1 = some .local ∨ (scope.names.lookup y.1 = some .cell ∧ ((cellsFrom (s.heap.objs.size + 1) scope.names []).lookup y.1).isSome = true) := by
      rintro ⟨y, v⟩ hy
      cases S.par y (List.of_mem_zip hy).1 with
      | inl z => exact .inl z
      | inr z => exact .inr ⟨z, PySem.W.cellsFrom_some _ _ _ (.inl z)⟩
    refine codeAny_call_function room.depth (inH _ _ hf) rfl S.co S.gen rfl (PySem.W.codeRec_of inH hc) (bind _ _ _ _ (wpAny_newFunctionEnv_cells S.kind kinds ?_))
    intro env ee s1 st
    cases ee
    refine ⟨nol.keeps st.toInCall.keep, codeAny_func (wpAny_mono (body_t.run [] s1 (start N vs) H _ (inv_start S room.hd e0 (len _ _ _ _ q) rel st) wish) ?_ fun _ _ z => z)⟩
    intro fl s2 z
    cases fl with
    | next => obtain ⟨σ2, H2, J, z2⟩ := z; exact ⟨.non, H2, J.os, J.bare, J.base, J.hok, rfl, z2⟩
    | ret u => obtain ⟨v, σ2, H2, J, rv, z2⟩ := z; exact ⟨v, H2, J.os, J.bare, J.base, J.hok, rv, z2⟩
    | brk => obtain ⟨_, _, _, z2⟩ := z; exact z2.elim
    | cont => obtain ⟨_, _, _, z2⟩ := z; exact z2.elim
end
section
variable {P : Program} {w : World} {K : PySem.W.Frag} {mg : Str → Option Value} {base : Heap} {x qual : Str} {params : Arguments} {body : List Stmt} {scope : Scope} {dvs : List V} {kws : List (Str × V)} {f : Addr} {fd : FuncData}
theorem funD_ok {CX : CXT} {N ps : List Str} {k : Nat} {sp : Sp} (F : FunD K x qual params body scope dvs kws f fd) (S : FnScope N ps scope) (len : ∀ vs H Q E, sp vs H Q E → vs.length = ps.length)
    (hb : ∀ (cdv : Value) (A : Around) (outer : List Env) (s : Shared) (H : Hp) (vs : List V) (Q : VK) (E : XK), Room k (A.deeper (envOfC qual scope s.heap.objs.size f cdv)) → sp vs H Q E →
      ∃ t, PSs (cxOf CX P w K mg base N qual scope f cdv A outer s H E) body t ∧ t { nx := fun _ H' => Q .non H', rt := Q } (start N vs) H) : FnOk P w K mg base CX (k + 1) f fd ps sp := by
  obtain ⟨_, _, _, _, _, _, _, cdv, _, _, rfl, l, c, _, _⟩ := F.ex
  exact fn_of l c S len fun A outer s H vs Q E => hb cdv A outer s H vs Q E
end
section
variable {X : Cx} {CX : CXT} {pins : List (Addr × Obj)} {σ : L2.St} {H : Hp} {s : Shared} {a C dx p g : Addr} {vs : List (Option V)} {f : Str} {n : Nat} {sp : Sp} {E : XK}
theorem prop_sl {b : Bool} {Q : VK} (I : Inv X pins σ H s) (hs : SlX.Slt H a C dx vs) (sc : SlX.SCls X.K C) (fi : PySem.W.findIn X.K (.ref C) f = some (some (.ref p)))
    (gt : PySem.W.specialIn X.K (.ref p) "__get__" = some (some (.builtin "property.__get__"))) (tk : PySem.W.takesIn X.K (.ref p) = some true)
    (rc : ∃ rest, PySem.W.recIn X.K p "property" = some (.ref g :: rest)) (F : FnR X.prog X.w X.K X.mg X.base CX n g sp) (room : Room (n + 1) X.A)
    (no : ∀ (H : Hp) (s : Shared) (e : Value) (s' : Shared), CX X.stack H s E e s' → False) (q : sp [.ref a] H Q E) :
    wpAny (model X.prog X.w) X.A (getAttr (.ref a) f b) (EP X pins σ Q) X.xe s := by
  obtain ⟨rest, rcs⟩ := rc
  obtain ⟨sl, od, _, J, _⟩ := SlX.slt_inst I hs
  have I' : Inv X pins σ H { s with toks := s.toks + 1 } := I.tok (s.toks + 1)
  have run := codeAny_mono (F X.A.in1 X.stack _ H [.ref a] [.ref a] Q E room.in1 I'.env0.in1 (.cons rfl .nil) q) (R' := fun r s' => match r with
      | .ok (.ret v) => wpAny (model X.prog X.w) X.A (handedOut v) (EP X pins σ Q) X.xe s'
      | .ok _ => False
      | .error e => wpAny (model X.prog X.w) X.A (noteIf true (.ref a) (.str f s.toks) e) (fun _ s'' => X.xe e s'') X.xe s') fun r s' z => by
    match r, z with
    | .error e, z => exact (no _ _ _ _ z).elim
    | .ok (.ret u), z =>
      obtain ⟨v, H', J2, rv, qv⟩ := I'.after z
      exact wpAny_of_eq (PySem.W.handedOut_of (handed_of rv)) ⟨v, H', J2, rv, qv⟩
    | .ok .next, z => exact z.elim
    | .ok .brk, z => exact z.elim
    | .ok .cont, z => exact z.elim
  exact PySem.W.get_bind I.kIn J (PySem.W.plainGet_of (sc.get f)).1 (PySem.W.findObj_data sc.ic fi gt tk) (PySem.W.plainGet_of (sc.get f)).2 (wpAny_call (PySem.W.prop_get (s := { s with toks := s.toks + 1 }) I.kIn rcs run))
end
end Dx

namespace Dx
open PySem PySem.Spec PyProof.Rows L2

inductive D where
  | non | bl (b : Bool) | int (i : Int) | str (x : Str)
  | tup (ds : List D) | lst (ds : List D)
  | dK (ks : List Key) (ds : List D) | dT (ks : List (List Key)) (ds : List D)
  | ins (c : Nat) (fs : List D)
  | scr (ns : List Int) | ty (n : String) | glo (n : Nat) | dice | rng (lo hi : Int) | gtp (ns : List Int)
  deriving Inhabited

inductive CO where
  | lst (ds : List D) | dK (ks : List Key) (ds : List D) | dT (ks : List (List Key)) (ds : List D)
def CO.d : CO → D
  | .lst ds => .lst ds | .dK ks ds => .dK ks ds | .dT ks ds => .dT ks ds
inductive Slot where
  | un | v (d : D) | own (c : CO) | slf | fn | er (n : Nat) (d : D)
structure G where
  d : Option (Int × Int × Int) := none
  ob : Option (Nat × List (Option D)) := none
structure Ad where
  d : Addr
  oa : Addr
  od : Addr
  fn : Addr
  er : Addr
  ed : Addr
  ec : Value
def G.sh (g : G) : Bool × Bool := (g.d.isSome, g.ob.isSome)
structure LSt where
  sl : List Slot
  g : G
structure XC where
  c : Nat
  args : List D

inductive Res (α : Type) where
  | ok (a : α) (l : LSt) | ex (x : XC) (l : LSt) | bad
@[reducible] def Res.bind {α β : Type} (r : Res α) (k : α → LSt → Res β) : Res β := match r with
  | .ok a l => k a l
  | .ex x l => .ex x l
  | .bad => .bad
inductive EV where
  | v (d : D) | o (c : CO)
def EV.d : EV → D
  | .v d => d | .o c => c.d
inductive Fl where
  | nx (l : LSt) | rt (e : EV) (l : LSt) | bk (l : LSt) | ct (l : LSt) | ex (x : XC) (l : LSt) | bad
inductive FR where
  | ok (e : EV) (g : G) | ex (x : XC) (g : G) | bad
abbrev Fm := List D → G → FR

structure Cn where
  K : PySem.W.Frag
  cA : Nat → Addr
  gA : Nat → Addr
  xf : Nat → Str
  /-- the tables of code objects: of lambdas, of generator expressions -/
  tq : Addr → Option Str := fun _ => none
  tg : Addr → Bool := fun _ => false
structure Ac extends Cn where
  hid : Hp
  Hf0 : Hp
  ad : Ad
  gs : Bool × Bool

mutual
def RVal (c : Cn) (ad : Ad) (H : Hp) : D → V → Prop
  | .non, v => v = .non
  | .bl b, v => v = .bl b
  | .int i, v => v = .int i
  | .str x, v => v = .str x
  | .tup ds, v => ∃ a vs, v = .ref a ∧ H a = some (.tup vs) ∧ RVals c ad H ds vs
  | .lst ds, v => ∃ a vs, v = .ref a ∧ H a = some (.lst vs) ∧ RVals c ad H ds vs
  | .scr ns, v => ∃ a, v = .ref a ∧ SqL c.K H a (ns.map V.int)
  | .dK ks ds, v => ∃ a od vs, v = .ref a ∧ H a = some (.frz od (.dK (ks.zip vs))) ∧ ks.length = vs.length ∧ RVals c ad H ds vs
  | .dT ks ds, v => ∃ a od vs, v = .ref a ∧ H a = some (.frz od (.dT (ks.zip vs))) ∧ ks.length = vs.length ∧ RVals c ad H ds vs
  | .ins n fs, v => ∃ a dx vs, v = .ref a ∧ H a = some (SlX.SlO a (c.cA n) dx (vs.map some)) ∧ H dx = some (.xd []) ∧ RVals c ad H fs vs
  | .ty n, v => v = .ty n
  | .glo n, v => v = .ref (c.gA n)
  | .dice, v => v = .ref ad.d
  | .rng lo hi, v => ∃ a, v = .ref a ∧ H a = some (.rng lo hi)
  | .gtp ns, v => ∃ a, v = .ref a ∧ SqT c.K (fun _ => none) a (ns.map V.int)

def RVals (c : Cn) (ad : Ad) (H : Hp) : List D → List V → Prop
  | [], vs => vs = []
  | d :: ds, vs => ∃ v r, vs = v :: r ∧ RVal c ad H d v ∧ RVals c ad H ds r
end

theorem sameT {K : PySem.W.Frag} {H H' : Hp} {a : Addr} {xs : List V} (e : Same H H') (h : H a = some (.tup xs)) : SqT K H' a xs := .inl (.inl (e _ _ h))
theorem sqM {K : PySem.W.Frag} {H H' : Hp} {a : Addr} {xs : List V} (e : Same H H') (h : SqT K H a xs) : SqT K H' a xs := by
  rcases h with (h | ⟨o, h⟩) | h
  · exact .inl (.inl (e _ _ h))
  · exact .inl (.inr ⟨o, e _ _ h⟩)
  · exact .inr h
theorem tupS {K : PySem.W.Frag} {H : Hp} {a : Addr} {xs : List V} (h : H a = some (.tup xs)) : SqT K H a xs := .inl (.inl h)
mutual
theorem RVal.mono {c : Cn} {ad : Ad} {H H' : Hp} (e : Same H H') : ∀ (d : D) (v : V), RVal c ad H d v → RVal c ad H' d v
  | .non, _, h => h
  | .bl _, _, h => h
  | .int _, _, h => h
  | .str _, _, h => h
  | .tup ds, _, ⟨a, vs, q, h, r⟩ => ⟨a, vs, q, e _ _ h, RVals.mono e ds vs r⟩
  | .lst ds, _, ⟨a, vs, q, h, r⟩ => ⟨a, vs, q, e _ _ h, RVals.mono e ds vs r⟩
  | .scr _, _, ⟨a, q, h⟩ => ⟨a, q, e.seq h⟩
  | .dK ks ds, _, ⟨a, od, vs, q, h, l, r⟩ => ⟨a, od, vs, q, e _ _ h, l, RVals.mono e ds vs r⟩
  | .dT ks ds, _, ⟨a, od, vs, q, h, l, r⟩ => ⟨a, od, vs, q, e _ _ h, l, RVals.mono e ds vs r⟩
  | .ins n fs, _, ⟨a, dx, vs, q, h, h2, r⟩ => ⟨a, dx, vs, q, e _ _ h, e _ _ h2, RVals.mono e fs vs r⟩
  | .ty _, _, h => h
  | .glo _, _, h => h
  | .dice, _, h => h
  | .rng _ _, _, ⟨a, q, h⟩ => ⟨a, q, e _ _ h⟩
  | .gtp _, _, h => h

theorem RVals.mono {c : Cn} {ad : Ad} {H H' : Hp} (e : Same H H') : ∀ (ds : List D) (vs : List V), RVals c ad H ds vs → RVals c ad H' ds vs
  | [], _, h => h
  | d :: ds, _, ⟨v, r, q, h, t⟩ => ⟨v, r, q, RVal.mono e d v h, RVals.mono e ds r t⟩
end
section
variable {c : Cn} {ad : Ad} {H : Hp}
theorem RVals.nil : RVals c ad H [] [] := rfl
theorem RVals.cons {d : D} {v : V} {ds : List D} {vs : List V} (h : RVal c ad H d v) (t : RVals c ad H ds vs) : RVals c ad H (d :: ds) (v :: vs) := ⟨v, vs, rfl, h, t⟩
theorem RVals.length : ∀ {ds : List D} {vs : List V}, RVals c ad H ds vs → ds.length = vs.length
  | [], _, h => by cases (show _ = [] from h); rfl
  | _ :: _, _, ⟨v, r, q, _, t⟩ => by rw [q, List.length_cons, List.length_cons, RVals.length t]
theorem RVals.get : ∀ {ds : List D} {vs : List V} {i : Nat} {d : D}, RVals c ad H ds vs → ds[i]? = some d → ∃ v, vs[i]? = some v ∧ RVal c ad H d v
  | [], _, _, _, _, e => by simp at e
  | _ :: _, _, 0, _, ⟨v, r, q, h, t⟩, e => by
    simp at e
    subst e
    exact ⟨v, by rw [q]; rfl, h⟩
  | _ :: _, _, i + 1, d, ⟨v, r, q, h, t⟩, e => by
    obtain ⟨u, e1, e2⟩ := RVals.get (i := i) (d := d) t (by simpa using e)
    exact ⟨u, by rw [q]; simpa using e1, e2⟩
theorem RVals.append : ∀ {ds es : List D} {vs us : List V}, RVals c ad H ds vs → RVals c ad H es us → RVals c ad H (ds ++ es) (vs ++ us)
  | [], _, _, _, h, t => by
    cases (show _ = [] from h)
    exact t
  | _ :: _, _, _, _, ⟨v, r, q, h, t⟩, u => by
    subst q
    exact ⟨v, _, rfl, h, RVals.append t u⟩
end

def isT (cn : Cn) (a : Addr) : Prop := (cn.tq a).isSome = true ∨ cn.tg a = true
def isD (cn : Cn) (g : G) (ad : Ad) (a : Addr) : Prop := (g.sh.1 = true ∧ a = ad.d) ∨ (g.sh.2 = true ∧ (a = ad.oa ∨ a = ad.od)) ∨ isT cn a
def TabF (Hf H : Hp) (P : Addr) (q : Str) : Prop := ∃ ps : Array Value, H P = some (.tbl ps) ∧ TriplesOk ps.toList ∧ ∀ (pos : Pos) (cv : Value), codeAmong pos ps.toList = some cv → ∃ c, cv = .ref c ∧ Hf c = some (LamX.CodeO c q)
def TabH (H : Hp) (P : Addr) : Prop := ∃ ps : Array Value, H P = some (.tbl ps) ∧ TriplesOk ps.toList
structure TbOk (cn : Cn) (Hf H : Hp) : Prop where
  lam : ∀ P q, cn.tq P = some q → Hf P = none ∧ TabF Hf H P q
  gen : ∀ P, cn.tg P = true → Hf P = none ∧ TabH H P
theorem TabF.keep {Hf Hf' H H' : Hp} {P : Addr} {q : Str} (t : TabF Hf H P q) (e : Same Hf Hf') (k : H' P = H P) : TabF Hf' H' P q := by
  obtain ⟨ps, h1, h2, h3⟩ := t
  refine ⟨ps, by rw [k]; exact h1, h2, fun pos cv h => ?_⟩
  obtain ⟨c, e1, e2⟩ := h3 pos cv h
  exact ⟨c, e1, e _ _ e2⟩
theorem TbOk.at_ {cn : Cn} {Hf H : Hp} (t : TbOk cn Hf H) {a : Addr} (h : isT cn a) : ∃ ps, H a = some (.tbl ps) := by
  rcases h with h | h
  · obtain ⟨q, hq⟩ := Option.isSome_iff_exists.mp h
    obtain ⟨_, ps, h1, _⟩ := t.lam a q hq
    exact ⟨ps, h1⟩
  · obtain ⟨_, ps, h1, _⟩ := t.gen a h
    exact ⟨ps, h1⟩
theorem TbOk.ne {cn : Cn} {Hf H : Hp} (t : TbOk cn Hf H) {a b : Addr} {o : HO} (h : isT cn a) (e : H b = some o) (ho : ∀ ps, o ≠ .tbl ps) : a ≠ b := fun z => by
  obtain ⟨ps, e2⟩ := t.at_ h
  rw [z, e] at e2
  exact ho ps (Option.some.inj e2)
theorem TbOk.keep {cn : Cn} {Hf Hf' H H' : Hp} (t : TbOk cn Hf H) (e : Same Hf Hf') (k : ∀ a, isT cn a → H' a = H a) (k2 : ∀ a, isT cn a → Hf' a = Hf a) : TbOk cn Hf' H' :=
  ⟨fun P q h => by
    have hT : isT cn P := .inl (by rw [h]; rfl)
    obtain ⟨n, f⟩ := t.lam P q h
    exact ⟨by rw [k2 P hT]; exact n, f.keep e (k P hT)⟩, fun P h => by
    have hT : isT cn P := .inr h
    obtain ⟨n, ps, h1, h2⟩ := t.gen P h
    exact ⟨by rw [k2 P hT]; exact n, ps, by rw [k P hT]; exact h1, h2⟩⟩
def ROs (c : Cn) (ad : Ad) (Hf : Hp) (fs : List (Option D)) (us : List (Option V)) : Prop := fs.length = us.length ∧ ∀ (i : Nat) (d : D), fs[i]? = some (some d) → ∃ v, us[i]? = some (some v) ∧ RVal c ad Hf d v
def DcOk (Hf H : Hp) (ad : Ad) (g : G) : Prop := ∀ x y z, g.d = some (x, y, z) → Hf ad.d = none ∧ H ad.d = some (.lst [.int x, .int y, .int z])
def ObOk (c : Cn) (Hf H : Hp) (ad : Ad) (g : G) : Prop := ∀ n fs, g.ob = some (n, fs) → Hf ad.oa = none ∧ Hf ad.od = none ∧ ad.od ≠ ad.oa ∧ (H ad.od = some (.own ad.oa) ∨ H ad.od = some (.xd [])) ∧ ∃ us, SlX.Slt H ad.oa (c.cA n) ad.od us ∧ ROs c ad Hf fs us
def TupOk (Hf H : Hp) : Prop := ∀ q xs, H q = some (.tup xs) → Hf q = some (.tup xs)
theorem TupOk.up {Hf H : Hp} {a : Addr} {o : HO} (t : TupOk Hf H) (ho : ∀ xs, o ≠ .tup xs := by intro _ z; cases z) : TupOk Hf (upd H a o) := fun q xs h => by
  by_cases e : q = a
  · subst e
    rw [upd_same] at h
    exact absurd (Option.some.inj h) (ho xs)
  · rw [upd_ne e] at h
    exact t q xs h
theorem TupOk.grow {Hf Hf' H : Hp} (t : TupOk Hf H) (s : Same Hf Hf') : TupOk Hf' H := fun q xs h => s _ _ (t q xs h)
structure DiceOk (c : Cn) (Hf H : Hp) (ad : Ad) (g : G) : Prop where
  dc : DcOk Hf H ad g
  obj : ObOk c Hf H ad g
  tb : TbOk c Hf H
  tp : TupOk Hf H
def RCO (c : Cn) (ad : Ad) (Hf : Hp) : CO → HO → Prop
  | .lst ds, o => ∃ vs, o = .lst vs ∧ RVals c ad Hf ds vs
  | .dK ks ds, o => ∃ vs, o = .dK (ks.zip vs) ∧ ks.length = vs.length ∧ RVals c ad Hf ds vs
  | .dT ks ds, o => ∃ vs, o = .dT (ks.zip vs) ∧ ks.length = vs.length ∧ RVals c ad Hf ds vs
theorem RCO.mono {c : Cn} {ad : Ad} {Hf Hf' : Hp} (e : Same Hf Hf') : ∀ {co : CO} {o : HO}, RCO c ad Hf co o → RCO c ad Hf' co o
  | .lst ds, _, ⟨vs, q, r⟩ => ⟨vs, q, RVals.mono e _ _ r⟩
  | .dK ks ds, _, ⟨vs, q, l, r⟩ => ⟨vs, q, l, RVals.mono e _ _ r⟩
  | .dT ks ds, _, ⟨vs, q, l, r⟩ => ⟨vs, q, l, RVals.mono e _ _ r⟩
def lk : CO → Obj → HO → HO
  | .lst _, _, o => o
  | _, od, o => .frz od o
theorem RCO.val {c : Cn} {ad : Ad} {Hf : Hp} {a : Addr} {o : HO} (od : Obj) (n : Hf a = none) : ∀ {co : CO}, RCO c ad Hf co o → RVal c ad (upd Hf a (lk co od o)) co.d (.ref a)
  | .lst ds, ⟨vs, q, r⟩ => ⟨a, vs, rfl, by rw [upd_same]; exact congrArg some q, RVals.mono (fun b u e => by rw [upd_ne (ne_of_none e n)]; exact e) _ _ r⟩
  | .dK ks ds, ⟨vs, q, l, r⟩ => ⟨a, od, vs, rfl, by rw [upd_same, q]; rfl, l, RVals.mono (fun b u e => by rw [upd_ne (ne_of_none e n)]; exact e) _ _ r⟩
  | .dT ks ds, ⟨vs, q, l, r⟩ => ⟨a, od, vs, rfl, by rw [upd_same, q]; rfl, l, RVals.mono (fun b u e => by rw [upd_ne (ne_of_none e n)]; exact e) _ _ r⟩
theorem RCO.mut {c : Cn} {ad : Ad} {Hf : Hp} {o : HO} : ∀ {co : CO}, RCO c ad Hf co o → Mut (some o)
  | .lst _, ⟨_, q, _⟩ => q ▸ True.intro
  | .dK _ _, ⟨_, q, _⟩ => q ▸ True.intro
  | .dT _ _, ⟨_, q, _⟩ => q ▸ True.intro
theorem RCO.notup {c : Cn} {ad : Ad} {Hf : Hp} {xs : List V} : ∀ {co : CO}, ¬ RCO c ad Hf co (.tup xs)
  | .lst _, ⟨_, q, _⟩ => nomatch q
  | .dK _ _, ⟨_, q, _⟩ => nomatch q
  | .dT _ _, ⟨_, q, _⟩ => nomatch q
theorem upd_id {H : Hp} {a : Addr} {o : HO} (h : H a = some o) : upd H a o = H := by
  funext b
  by_cases e : b = a
  · rw [e, upd_same, h]
  · rw [upd_ne e]
def LkP (Q : VK) (v : V) (H : Hp) : Prop := Q v H ∨ ∃ d u, v = .ref d ∧ H d = some u ∧ Mut (some u) ∧ ∀ od, Q v (upd H d (.frz od u))
theorem RCO.lkp {c : Cn} {ad : Ad} {Hf H : Hp} {a : Addr} {o : HO} {Q : VK} (ha : H a = some o) : ∀ {co : CO}, RCO c ad Hf co o → (∀ od, Q (.ref a) (upd H a (lk co od o))) → LkP Q (.ref a) H
  | .lst _, _, h => .inl (by have := h default; rw [show lk (.lst _) default o = o from rfl, upd_id ha] at this; exact this)
  | .dK _ _, r, h => .inr ⟨a, o, rfl, ha, r.mut, h⟩
  | .dT _ _, r, h => .inr ⟨a, o, rfl, ha, r.mut, h⟩
theorem same_upd {H : Hp} {a : Addr} {o : HO} (n : H a = none) : Same H (upd H a o) := fun b u e => by rw [upd_ne (ne_of_none e n)]; exact e
theorem upd_sub {Hf H : Hp} {a : Addr} {o : HO} (s : Same Hf H) (h : H a = some o) : Same (upd Hf a o) H := fun b u e => by
  by_cases hb : b = a
  · subst hb
    rw [upd_same] at e
    cases e
    exact h
  · rw [upd_ne hb] at e
    exact s b u e

def RErr (cn : Cn) (ad : Ad) (Hf : Hp) (n : Nat) (d : D) (x : Option V) : Prop := x = some (.ref ad.er) ∧ ad.ec = .ref (cn.cA n) ∧ ∃ v, Hf ad.ed = some (.xd [(cn.xf n, v)]) ∧ RVal cn ad Hf d v
theorem RErr.mono {cn : Cn} {ad : Ad} {Hf Hf' : Hp} {n : Nat} {d : D} {x : Option V} (e : Same Hf Hf') (h : RErr cn ad Hf n d x) : RErr cn ad Hf' n d x := by
  obtain ⟨h1, hc, v, h2, h3⟩ := h
  exact ⟨h1, hc, v, e _ _ h2, h3.mono e⟩
def RSlot (c : Ac) (Hf H : Hp) (g : G) : Slot → Option V → Prop
  | .un, _ => True
  | .v d, x => ∃ v, x = some v ∧ RVal c.toCn c.ad Hf d v
  | .own co, x => ∃ a o, x = some (.ref a) ∧ H a = some o ∧ RCO c.toCn c.ad Hf co o ∧ Hf a = none ∧ c.hid a = none ∧ ¬ isD c.toCn g c.ad a
  | .slf, x => x = some (.ref c.ad.oa)
  | .fn, x => x = some (.ref c.ad.fn)
  | .er n d, x => RErr c.toCn c.ad Hf n d x
def isOwn : Slot → Bool
  | .own _ => true
  | _ => false
structure REnv (c : Ac) (Hf : Hp) (σ : L2.St) (H : Hp) (l : LSt) : Prop where
  len : σ.length = l.sl.length
  slot : ∀ (i : Nat) (s : Slot), l.sl[i]? = some s → ∃ x : Option V, σ[i]? = some x ∧ RSlot c Hf H l.g s x
  dis : ∀ (i j : Nat) (s t : Slot) (a : Addr), l.sl[i]? = some s → l.sl[j]? = some t → isOwn s = true → isOwn t = true → σ[i]? = some (some (.ref a)) → σ[j]? = some (some (.ref a)) → i = j
  sub : Same Hf H
  base : Same c.Hf0 Hf
  frame : ∀ a o, c.hid a = some o → H a = some o ∧ Hf a = none ∧ ¬ isD c.toCn l.g c.ad a
  dice : DiceOk c.toCn Hf H c.ad l.g
  hgs : l.g.sh = c.gs

section
variable {c : Ac} {Hf H : Hp} {σ : L2.St} {l : LSt}
theorem REnv.val (R : REnv c Hf σ H l) {i : Nat} {d : D} (h : l.sl[i]? = some (.v d)) : ∃ v, σ[i]? = some (some v) ∧ RVal c.toCn c.ad Hf d v := by
  obtain ⟨x, e, v, q, r⟩ := R.slot i _ h
  exact ⟨v, by rw [e, q], r⟩
theorem REnv.own (R : REnv c Hf σ H l) {i : Nat} {co : CO} (h : l.sl[i]? = some (.own co)) :
    ∃ a o, σ[i]? = some (some (.ref a)) ∧ H a = some o ∧ RCO c.toCn c.ad Hf co o ∧ Hf a = none ∧ c.hid a = none ∧ ¬ isD c.toCn l.g c.ad a := by
  obtain ⟨x, e, a, o, q, r⟩ := R.slot i _ h
  exact ⟨a, o, by rw [e, q], r⟩
section
variable {cn : Cn} {ad : Ad} {a : Addr} {o : HO} {g : G}
theorem ROs.mono {fs : List (Option D)} {us : List (Option V)} {Hf' : Hp} (e : Same Hf Hf') (h : ROs cn ad Hf fs us) : ROs cn ad Hf' fs us := ⟨h.1, fun i d q => by
  obtain ⟨v, h1, h2⟩ := h.2 i d q
  exact ⟨v, h1, h2.mono e⟩⟩
theorem slt_there {H : Hp} {x C dx : Addr} {vs : List (Option V)} (h : SlX.Slt H x C dx vs) : ∃ o, H x = some o := by
  rcases h with ⟨h, _⟩ | ⟨h, _⟩
  · exact ⟨_, h⟩
  · exact ⟨_, h⟩
theorem slt_upd {H : Hp} {x C dx : Addr} {vs : List (Option V)} (h : SlX.Slt H x C dx vs) (h1 : x ≠ a) (h2 : dx ≠ a) : SlX.Slt (upd H a o) x C dx vs := by
  rcases h with ⟨h, e⟩ | ⟨h, e⟩
  · exact .inl ⟨by rw [upd_ne h1]; exact h, e⟩
  · exact .inr ⟨by rw [upd_ne h1]; exact h, by rw [upd_ne h2]; exact e⟩
theorem DiceOk.new (R : DiceOk cn Hf H ad g) (n : H a = none) : ¬ isD cn g ad a := by
  rintro (⟨h1, h2⟩ | ⟨h1, h2⟩ | hT)
  · have h1' : g.d.isSome = true := h1
    cases e : g.d with
    | none =>
      rw [e] at h1'
      cases h1'
    | some t =>
      obtain ⟨x, y, z⟩ := t
      have := (R.dc x y z e).2
      rw [← h2, n] at this
      cases this
  · have h1' : g.ob.isSome = true := h1
    cases e : g.ob with
    | none =>
      rw [e] at h1'
      cases h1'
    | some t =>
      obtain ⟨k, fs⟩ := t
      obtain ⟨_, _, _, h3, us, h4, _⟩ := R.obj k fs e
      rcases h2 with h2 | h2
      · obtain ⟨u, h5⟩ := slt_there h4
        rw [← h2, n] at h5
        cases h5
      · rcases h3 with h3 | h3
        · rw [← h2, n] at h3
          cases h3
        · rw [← h2, n] at h3
          cases h3
  · obtain ⟨ps, h1⟩ := R.tb.at_ hT
    rw [n] at h1
    cases h1
theorem DiceOk.other {Hf' H' : Hp} (R : DiceOk cn Hf H ad g) (nd : ¬ isD cn g ad a) (e : Same Hf Hf') (h1 : ∀ b, b ≠ a → H' b = H b) (h2 : ∀ b, b ≠ a → Hf' b = Hf b) (h3 : ∀ xs, H' a = some (.tup xs) → Hf' a = some (.tup xs)) : DiceOk cn Hf' H' ad g := by
  refine ⟨fun x y z q => ?_, fun k fs q => ?_, R.tb.keep e (fun b hb => h1 _ fun z => nd (.inr (.inr (z ▸ hb)))) fun b hb => h2 _ fun z => nd (.inr (.inr (z ▸ hb))), fun q xs hq => ?_⟩
  · have ne : ad.d ≠ a := fun z => nd (.inl ⟨by show g.d.isSome = true; rw [q]; rfl, z.symm⟩)
    rw [h1 _ ne, h2 _ ne]
    exact R.dc x y z q
  · have hs : g.ob.isSome = true := by rw [q]; rfl
    have n1 : ad.oa ≠ a := fun z => nd (.inr (.inl ⟨hs, .inl z.symm⟩))
    have n2 : ad.od ≠ a := fun z => nd (.inr (.inl ⟨hs, .inr z.symm⟩))
    obtain ⟨q1, q2, q3, q4, us, q5, q6⟩ := R.obj k fs q
    refine ⟨by rw [h2 _ n1]; exact q1, by rw [h2 _ n2]; exact q2, q3, ?_, us, ?_, q6.mono e⟩
    · rw [h1 _ n2]
      exact q4
    · rcases q5 with ⟨h, e⟩ | ⟨h, e⟩
      · exact .inl ⟨by rw [h1 _ n1]; exact h, e⟩
      · exact .inr ⟨by rw [h1 _ n1]; exact h, by rw [h1 _ n2]; exact e⟩
  · by_cases hb : q = a
    · subst hb
      exact h3 xs hq
    · rw [h1 q hb] at hq
      rw [h2 q hb]
      exact R.tp q xs hq
theorem DiceOk.alloc (R : DiceOk cn Hf H ad g) (n : H a = none) (nf : Hf a = none) : DiceOk cn (upd Hf a o) (upd H a o) ad g :=
  R.other (R.new n) (same_upd nf) (fun b hb => upd_ne hb) (fun b hb => upd_ne hb) fun xs hx => by rw [upd_same] at hx ⊢; exact hx
theorem DiceOk.hid (R : DiceOk cn Hf H ad g) (n : H a = none) (ho : ∀ xs, o ≠ .tup xs) : DiceOk cn Hf (upd H a o) ad g := R.other (R.new n) (Same.refl _) (fun b hb => upd_ne hb) (fun b hb => rfl) fun xs hx => by rw [upd_same] at hx; exact absurd (Option.some.inj hx) (ho xs)
theorem DiceOk.poke (R : DiceOk cn Hf H ad g) (nd : ¬ isD cn g ad a) (ho : ∀ xs, o ≠ .tup xs) : DiceOk cn Hf (upd H a o) ad g := R.other nd (Same.refl _) (fun b hb => upd_ne hb) (fun b hb => rfl) fun xs hx => by rw [upd_same] at hx; exact absurd (Option.some.inj hx) (ho xs)
end
theorem RSlot.keep {Hf' H' : Hp} {g : G} (e : Same Hf Hf') (k : ∀ a o, H a = some o → Hf a = none → c.hid a = none → ¬ isD c.toCn g c.ad a → H' a = some o ∧ Hf' a = none) : ∀ {s : Slot} {x : Option V}, RSlot c Hf H g s x → RSlot c Hf' H' g s x
  | .un, _, _ => True.intro
  | .v d, _, ⟨v, q, r⟩ => ⟨v, q, r.mono e⟩
  | .own co, _, ⟨a, o, q, h, r, n, n0, nd⟩ => ⟨a, o, q, (k a o h n n0 nd).1, r.mono e, (k a o h n n0 nd).2, n0, nd⟩
  | .slf, _, h => h
  | .fn, _, h => h
  | .er _ _, _, h => h.mono e
theorem REnv.alloc (R : REnv c Hf σ H l) {a : Addr} {o : HO} (n : H a = none) : REnv c (upd Hf a o) σ (upd H a o) l where
  len := R.len
  slot := fun i s h => by
    obtain ⟨x, e, r⟩ := R.slot i s h
    exact ⟨x, e, r.keep (same_upd (R.sub.free n)) fun b u hb hn _ _ => by rw [upd_ne (ne_of_none hb n), upd_ne (ne_of_none hb n)]; exact ⟨hb, hn⟩⟩
  dis := R.dis
  sub := fun b u e => by
    by_cases hb : b = a
    · subst hb
      rw [upd_same] at e ⊢
      exact e
    · rw [upd_ne hb] at e ⊢
      exact R.sub b u e
  base := R.base.trans (same_upd (R.sub.free n))
  frame := fun b u h1 => by
    obtain ⟨e1, e2, e3⟩ := R.frame b u h1
    have ne : b ≠ a := ne_of_none e1 n
    rw [upd_ne ne, upd_ne ne]
    exact ⟨e1, e2, e3⟩
  dice := R.dice.alloc n (R.sub.free n)
  hgs := R.hgs
theorem REnv.free (R : REnv c Hf σ H l) {a : Addr} (n : H a = none) : Hf a = none := R.sub.free n
theorem REnv.hid (R : REnv c Hf σ H l) {a : Addr} {o : HO} (n : H a = none) (ho : ∀ xs, o ≠ .tup xs := by intro _ z; cases z) : REnv c Hf σ (upd H a o) l where
  len := R.len
  slot := fun i s h => by
    obtain ⟨x, e, r⟩ := R.slot i s h
    exact ⟨x, e, r.keep (Same.refl _) fun b u hb hn _ _ => by rw [upd_ne (ne_of_none hb n)]; exact ⟨hb, hn⟩⟩
  dis := R.dis
  sub := R.sub.trans (same_upd n)
  base := R.base
  frame := fun b u h1 => by
    obtain ⟨e1, e2, e3⟩ := R.frame b u h1
    have ne : b ≠ a := ne_of_none e1 n
    rw [upd_ne ne]
    exact ⟨e1, e2, e3⟩
  dice := R.dice.hid n ho
  hgs := R.hgs
end

section
variable {c : Ac} {Hf H : Hp} {σ : L2.St} {l : LSt}
def LSt.put (l : LSt) (i : Nat) (s : Slot) : LSt := { l with sl := l.sl.set i s }
theorem REnv.freeze (R : REnv c Hf σ H l) {i : Nat} {co : CO} (h : l.sl[i]? = some (.own co)) : ∃ a o, σ[i]? = some (some (.ref a)) ∧ H a = some o ∧ RCO c.toCn c.ad Hf co o ∧ Hf a = none ∧
    ∀ od, REnv c (upd Hf a (lk co od o)) σ (upd H a (lk co od o)) (l.put i (.v co.d)) ∧ RVal c.toCn c.ad (upd Hf a (lk co od o)) co.d (.ref a) := by
  obtain ⟨a, o, e, ha, r, n, n0, nd⟩ := R.own h
  have hi : i < l.sl.length := (List.getElem?_eq_some_iff.mp h).1
  refine ⟨a, o, e, ha, r, n, fun od => ⟨⟨by rw [R.len]; exact (List.length_set ..).symm, fun j s hj => ?_, fun j k s t b hj hk os ot ej ek => ?_, fun b u hb => ?_, R.base.trans (same_upd n), fun b u h1 => ?_, ?_, R.hgs⟩, r.val od n⟩⟩
  · by_cases hji : j = i
    · subst hji
      have q : (LSt.put l j (.v co.d)).sl[j]? = some (.v co.d) := List.getElem?_set_self hi
      rw [q] at hj
      cases hj
      exact ⟨_, e, .ref a, rfl, r.val od n⟩
    · have q : (LSt.put l i (.v co.d)).sl[j]? = l.sl[j]? := List.getElem?_set_ne (Ne.symm hji)
      rw [q] at hj
      obtain ⟨x, ex, rs⟩ := R.slot j s hj
      refine ⟨x, ex, ?_⟩
      cases s with
      | un => exact True.intro
      | slf => exact rs
      | fn => exact rs
      | er _ _ => exact rs.mono (same_upd n)
      | v d =>
        obtain ⟨v, qv, rv⟩ := rs
        exact ⟨v, qv, rv.mono (same_upd n)⟩
      | own co' =>
        obtain ⟨a', o', qa, ha', r', n', n0', nd'⟩ := rs
        have ne : a' ≠ a := fun z => hji (R.dis j i _ _ a hj h rfl rfl (by rw [ex, qa, z]) e)
        exact ⟨a', o', qa, by rw [upd_ne ne]; exact ha', r'.mono (same_upd n), by rw [upd_ne ne]; exact n', n0', nd'⟩
  · have hji : j ≠ i := fun z => by
      subst z
      have q : (LSt.put l j (.v co.d)).sl[j]? = some (.v co.d) := List.getElem?_set_self hi
      rw [q] at hj
      cases hj
      cases os
    have hki : k ≠ i := fun z => by
      subst z
      have q : (LSt.put l k (.v co.d)).sl[k]? = some (.v co.d) := List.getElem?_set_self hi
      rw [q] at hk
      cases hk
      cases ot
    have q1 : (LSt.put l i (.v co.d)).sl[j]? = l.sl[j]? := List.getElem?_set_ne (Ne.symm hji)
    have q2 : (LSt.put l i (.v co.d)).sl[k]? = l.sl[k]? := List.getElem?_set_ne (Ne.symm hki)
    rw [q1] at hj
    rw [q2] at hk
    exact R.dis j k s t b hj hk os ot ej ek
  · by_cases e' : b = a
    · subst e'
      rw [upd_same] at hb ⊢
      exact hb
    · rw [upd_ne e'] at hb ⊢
      exact R.sub b u hb
  · obtain ⟨e1, e2, e3⟩ := R.frame b u h1
    have ne : b ≠ a := fun z => by rw [z, n0] at h1; cases h1
    rw [upd_ne ne, upd_ne ne]
    exact ⟨e1, e2, e3⟩
  · exact R.dice.other nd (same_upd n) (fun b hb => upd_ne hb) (fun b hb => upd_ne hb) fun xs hx => by rw [upd_same] at hx ⊢; exact hx
theorem REnv.store (R : REnv c Hf σ H l) {i : Nat} {d : D} {v : V} (r : RVal c.toCn c.ad Hf d v) : REnv c Hf (σ.set i (some v)) H (l.put i (.v d)) where
  len := by
    show (σ.set i (some v)).length = (l.sl.set i (.v d)).length
    rw [List.length_set, List.length_set]
    exact R.len
  slot := fun j s hj => by
    by_cases hji : j = i
    · subst hji
      have hj' : (l.sl.set j (.v d))[j]? = some s := hj
      have hl : j < l.sl.length := by
        have := (List.getElem?_eq_some_iff.mp hj').1
        rwa [List.length_set] at this
      rw [List.getElem?_set_self hl] at hj'
      cases hj'
      exact ⟨some v, List.getElem?_set_self (by rw [R.len]; exact hl), v, rfl, r⟩
    · have hj' : (l.sl.set i (.v d))[j]? = some s := hj
      rw [List.getElem?_set_ne (Ne.symm hji)] at hj'
      obtain ⟨x, e, q⟩ := R.slot j s hj'
      exact ⟨x, by rw [List.getElem?_set_ne (Ne.symm hji)]; exact e, q⟩
  dis := fun j k s t b hj hk os ot ej ek => by
    have hj' : (l.sl.set i (.v d))[j]? = some s := hj
    have hk' : (l.sl.set i (.v d))[k]? = some t := hk
    have own_ne : ∀ {m : Nat} {u : Slot}, (l.sl.set i (.v d))[m]? = some u → isOwn u = true → m ≠ i := fun {m u} hm ou z => by
      subst z
      have hl : m < l.sl.length := by
        have := (List.getElem?_eq_some_iff.mp hm).1
        rwa [List.length_set] at this
      rw [List.getElem?_set_self hl] at hm
      cases hm
      cases ou
    have n1 := own_ne hj' os
    have n2 := own_ne hk' ot
    rw [List.getElem?_set_ne (Ne.symm n1)] at hj' ej
    rw [List.getElem?_set_ne (Ne.symm n2)] at hk' ek
    exact R.dis j k s t b hj' hk' os ot ej ek
  sub := R.sub
  base := R.base
  frame := R.frame
  dice := R.dice
  hgs := R.hgs
theorem REnv.storeO (R : REnv c Hf σ H l) {i : Nat} {co : CO} {a : Addr} {o : HO} (h : H a = some o) (r : RCO c.toCn c.ad Hf co o) (n : Hf a = none) (n0 : c.hid a = none) (nd : ¬ isD c.toCn l.g c.ad a)
    (fr : ∀ (j : Nat) (s : Slot), l.sl[j]? = some s → isOwn s = true → σ[j]? ≠ some (some (.ref a))) : REnv c Hf (σ.set i (some (.ref a))) H (l.put i (.own co)) where
  len := by
    show (σ.set i (some (.ref a))).length = (l.sl.set i (.own co)).length
    rw [List.length_set, List.length_set]
    exact R.len
  slot := fun j s hj => by
    have hj' : (l.sl.set i (.own co))[j]? = some s := hj
    by_cases hji : j = i
    · subst hji
      have hl : j < l.sl.length := by
        have := (List.getElem?_eq_some_iff.mp hj').1
        rwa [List.length_set] at this
      rw [List.getElem?_set_self hl] at hj'
      cases hj'
      exact ⟨some (.ref a), List.getElem?_set_self (by rw [R.len]; exact hl), a, o, rfl, h, r, n, n0, nd⟩
    · rw [List.getElem?_set_ne (Ne.symm hji)] at hj'
      obtain ⟨x, e, q⟩ := R.slot j s hj'
      exact ⟨x, by rw [List.getElem?_set_ne (Ne.symm hji)]; exact e, q⟩
  dis := fun j k s t b hj hk os ot ej ek => by
    have hj' : (l.sl.set i (.own co))[j]? = some s := hj
    have hk' : (l.sl.set i (.own co))[k]? = some t := hk
    by_cases n1 : j = i
    · by_cases n2 : k = i
      · rw [n1, n2]
      · exfalso
        subst n1
        have hl : j < l.sl.length := by
          have := (List.getElem?_eq_some_iff.mp hj').1
          rwa [List.length_set] at this
        rw [List.getElem?_set_self (by rw [R.len]; exact hl)] at ej
        cases ej
        rw [List.getElem?_set_ne (Ne.symm n2)] at hk' ek
        exact fr k t hk' ot ek
    · rw [List.getElem?_set_ne (Ne.symm n1)] at hj' ej
      by_cases n2 : k = i
      · exfalso
        subst n2
        have hl : k < l.sl.length := by
          have := (List.getElem?_eq_some_iff.mp hk').1
          rwa [List.length_set] at this
        rw [List.getElem?_set_self (by rw [R.len]; exact hl)] at ek
        cases ek
        exact fr j s hj' os ej
      · rw [List.getElem?_set_ne (Ne.symm n2)] at hk' ek
        exact R.dis j k s t b hj' hk' os ot ej ek
  sub := R.sub
  base := R.base
  frame := R.frame
  dice := R.dice
  hgs := R.hgs
end
end Dx

namespace Dx
open PySem PySem.Spec PyProof.Rows L2

def RX (c : Cn) (ad : Ad) (Hf : Hp) (x : XC) (cls : Value) (dd : Option Addr) : Prop :=
  cls = .ref (c.cA x.c) ∧ (x.args = [] ∨ ∃ d a v, x.args = [d] ∧ dd = some a ∧ Hf a = some (.xd [(c.xf x.c, v)]) ∧ RVal c ad Hf d v)
def wpR {α : Type} (r : Res α) (P : α → LSt → Prop) (X : XC → LSt → Prop) : Prop := match r with
  | .ok a l => P a l
  | .ex x l => X x l
  | .bad => False
def PX (c : Ac) (W : WX) (σ : L2.St) (Hf : Hp) : XC → LSt → Prop := fun x l' => ∀ cls dd H' Hf', REnv c Hf' σ H' l' → Same Hf Hf' → RX c.toCn c.ad Hf' x cls dd → W cls dd σ H'
def PD (c : Ac) (σ : L2.St) (Q : VK) (Hf : Hp) : D → LSt → Prop := fun d l' => ∀ v H' Hf', REnv c Hf' σ H' l' → Same Hf Hf' → RVal c.toCn c.ad Hf' d v → Q v H'
def PB (c : Ac) (σ : L2.St) (Q : Bool → Hp → Prop) (Hf : Hp) : Bool → LSt → Prop := fun b l' => ∀ H' Hf', REnv c Hf' σ H' l' → Same Hf Hf' → Q b H'
def PA' (c : Ac) (σ : L2.St) (Q : List V → Hp → Prop) (Hf : Hp) : List D → LSt → Prop := fun ds l' => ∀ vs H' Hf', REnv c Hf' σ H' l' → Same Hf Hf' → RVals c.toCn c.ad Hf' ds vs → Q vs H'
def PO' (c : Ac) (σ : L2.St) (Q : VK) (Hf : Hp) : CO → LSt → Prop := fun co l' => ∀ a o H' Hf', REnv c Hf' σ H' l' → Same Hf Hf' → H' a = some o → RCO c.toCn c.ad Hf' co o → Hf' a = none → c.hid a = none → ¬ isD c.toCn l'.g c.ad a →
  (∀ (j : Nat) (s : Slot), l'.sl[j]? = some s → isOwn s = true → σ[j]? ≠ some (some (.ref a))) → Q (.ref a) H'
def tD (c : Ac) (W : WX) (f : LSt → Res D) : TE := fun σ H Q => ∃ Hf l, REnv c Hf σ H l ∧ wpR (f l) (PD c σ Q Hf) (PX c W σ Hf)
def tB (c : Ac) (W : WX) (f : LSt → Res Bool) : TT := fun σ H Q => ∃ Hf l, REnv c Hf σ H l ∧ wpR (f l) (PB c σ Q Hf) (PX c W σ Hf)
def tA (c : Ac) (W : WX) (f : LSt → Res (List D)) : TA := fun σ H Q => ∃ Hf l, REnv c Hf σ H l ∧ wpR (f l) (PA' c σ Q Hf) (PX c W σ Hf)
def tO (c : Ac) (W : WX) (f : LSt → Res CO) : TE := fun σ H Q => ∃ Hf l, REnv c Hf σ H l ∧ wpR (f l) (PO' c σ Q Hf) (PX c W σ Hf)
structure DE (X : Cx) (c : Ac) (W : WX) (e : Expr) (f : LSt → Res D) : Prop where pe : PE X e (tD c W f)
structure DT (X : Cx) (c : Ac) (W : WX) (e : Expr) (f : LSt → Res Bool) : Prop where pt : PT X e (tB c W f)
structure DA (X : Cx) (c : Ac) (W : WX) (es : List Expr) (f : LSt → Res (List D)) : Prop where pa : PA X es (tA c W f)
structure DO (X : Cx) (c : Ac) (W : WX) (e : Expr) (f : LSt → Res CO) : Prop where pe : PE X e (tO c W f)
structure DW (X : Cx) (c : Ac) (W : WX) (e : Expr) (f : LSt → Res Bool) : Prop where pw : PW X e (tB c W f)

theorem PX.mono {c : Ac} {W : WX} {σ : L2.St} {Hf Hf1 : Hp} (s : Same Hf Hf1) {x : XC} {l : LSt} (h : PX c W σ Hf x l) : PX c W σ Hf1 x l := fun cls dd H' Hf' R s' r => h cls dd H' Hf' R (s.trans s') r
def Mono {α : Type} (P : Hp → α → LSt → Prop) : Prop := ∀ Hf Hf1, Same Hf Hf1 → ∀ a l, P Hf a l → P Hf1 a l
theorem PD.mo {c : Ac} {σ : L2.St} {Q : VK} : Mono (PD c σ Q) := fun _ _ s _ _ h v H' Hf' R s' r => h v H' Hf' R (s.trans s') r
theorem PB.mo {c : Ac} {σ : L2.St} {Q : Bool → Hp → Prop} : Mono (PB c σ Q) := fun _ _ s _ _ h H' Hf' R s' => h H' Hf' R (s.trans s')
theorem PA'.mo {c : Ac} {σ : L2.St} {Q : List V → Hp → Prop} : Mono (PA' c σ Q) := fun _ _ s _ _ h v H' Hf' R s' r => h v H' Hf' R (s.trans s') r
theorem PO'.mo {c : Ac} {σ : L2.St} {Q : VK} : Mono (PO' c σ Q) := fun _ _ s _ _ h a o H' Hf' R s' => h a o H' Hf' R (s.trans s')
theorem wpR.mono {α : Type} {P : Hp → α → LSt → Prop} (mo : Mono P) {c : Ac} {W : WX} {σ : L2.St} {Hf Hf1 : Hp} (s : Same Hf Hf1) : ∀ {r : Res α}, wpR r (P Hf) (PX c W σ Hf) → wpR r (P Hf1) (PX c W σ Hf1)
  | .ok a l, h => mo _ _ s a l h
  | .ex x l, h => PX.mono s h
  | .bad, h => h
section
variable {c : Ac} {W : WX} {Hf H : Hp} {σ : L2.St} {l : LSt} {β : Type} {P : Hp → β → LSt → Prop}
theorem run_bind {f : LSt → Res D} {k : D → LSt → Res β} {Q : VK} (mo : Mono P) (R : REnv c Hf σ H l) (h : wpR ((f l).bind k) (P Hf) (PX c W σ Hf))
    (hk : ∀ d l1 v H1 Hf1, REnv c Hf1 σ H1 l1 → Same Hf Hf1 → RVal c.toCn c.ad Hf1 d v → wpR (k d l1) (P Hf1) (PX c W σ Hf1) → Q v H1) : tD c W f σ H Q := by
  refine ⟨Hf, l, R, ?_⟩
  cases e : f l with
  | ok d l1 =>
    rw [e] at h
    exact fun v H1 Hf1 R1 s1 r1 => hk d l1 v H1 Hf1 R1 s1 r1 (wpR.mono mo s1 h)
  | ex x l1 =>
    rw [e] at h
    exact h
  | bad =>
    rw [e] at h
    exact h
theorem run_bindB {f : LSt → Res Bool} {k : Bool → LSt → Res β} {Q : Bool → Hp → Prop} (mo : Mono P) (R : REnv c Hf σ H l) (h : wpR ((f l).bind k) (P Hf) (PX c W σ Hf))
    (hk : ∀ d l1 H1 Hf1, REnv c Hf1 σ H1 l1 → Same Hf Hf1 → wpR (k d l1) (P Hf1) (PX c W σ Hf1) → Q d H1) : tB c W f σ H Q := by
  refine ⟨Hf, l, R, ?_⟩
  cases e : f l with
  | ok d l1 =>
    rw [e] at h
    exact fun H1 Hf1 R1 s1 => hk d l1 H1 Hf1 R1 s1 (wpR.mono mo s1 h)
  | ex x l1 =>
    rw [e] at h
    exact h
  | bad =>
    rw [e] at h
    exact h
theorem run_bindA {f : LSt → Res (List D)} {k : List D → LSt → Res β} {Q : List V → Hp → Prop} (mo : Mono P) (R : REnv c Hf σ H l) (h : wpR ((f l).bind k) (P Hf) (PX c W σ Hf))
    (hk : ∀ ds l1 vs H1 Hf1, REnv c Hf1 σ H1 l1 → Same Hf Hf1 → RVals c.toCn c.ad Hf1 ds vs → wpR (k ds l1) (P Hf1) (PX c W σ Hf1) → Q vs H1) : tA c W f σ H Q := by
  refine ⟨Hf, l, R, ?_⟩
  cases e : f l with
  | ok d l1 =>
    rw [e] at h
    exact fun v H1 Hf1 R1 s1 r1 => hk d l1 v H1 Hf1 R1 s1 r1 (wpR.mono mo s1 h)
  | ex x l1 =>
    rw [e] at h
    exact h
  | bad =>
    rw [e] at h
    exact h
theorem run_bindO {f : LSt → Res CO} {k : CO → LSt → Res β} {Q : VK} (mo : Mono P) (R : REnv c Hf σ H l) (h : wpR ((f l).bind k) (P Hf) (PX c W σ Hf))
    (hk : ∀ co l1, wpR (k co l1) (P Hf) (PX c W σ Hf) → PO' c σ Q Hf co l1) : tO c W f σ H Q := by
  refine ⟨Hf, l, R, ?_⟩
  cases e : f l with
  | ok d l1 =>
    rw [e] at h
    exact hk d l1 h
  | ex x l1 =>
    rw [e] at h
    exact h
  | bad =>
    rw [e] at h
    exact h
end
theorem _root_.L2.PE.imp' {X : Cx} {e : Expr} {t t' : TE} (p : PE X e t) (h : ∀ σ H Q, t' σ H Q → t σ H Q) : PE X e t' := ⟨fun pins s σ H Q I q => p.run pins s σ H Q I (h σ H Q q)⟩
theorem _root_.L2.PT.imp' {X : Cx} {e : Expr} {t t' : TT} (p : PT X e t) (h : ∀ σ H Q, t' σ H Q → t σ H Q) : PT X e t' := ⟨fun pins s σ H Q I q => p.run pins s σ H Q I (h σ H Q q)⟩
theorem _root_.L2.PW.imp' {X : Cx} {e : Expr} {t t' : TT} (p : PW X e t) (h : ∀ σ H Q, t' σ H Q → t σ H Q) : PW X e t' := ⟨fun w pins s σ H Q I q => p.run w pins s σ H Q I (h σ H Q q)⟩
theorem _root_.L2.PA.imp' {X : Cx} {e : List Expr} {t t' : TA} (p : PA X e t) (h : ∀ σ H Q, t' σ H Q → t σ H Q) : PA X e t' := ⟨fun ps pins s σ H Q I q => p.run ps pins s σ H Q I (h σ H Q q)⟩
theorem _root_.L2.PS.imp' {X : Cx} {e : Stmt} {t t' : TS} (p : PS X e t) (h : ∀ D σ H, t' D σ H → t D σ H) : PS X e t' := ⟨fun pins s σ H D I q => p.run pins s σ H D I (h D σ H q)⟩
theorem _root_.L2.PSs.imp' {X : Cx} {e : List Stmt} {t t' : TS} (p : PSs X e t) (h : ∀ D σ H, t' D σ H → t D σ H) : PSs X e t' := ⟨fun pins s σ H D I q => p.run pins s σ H D I (h D σ H q)⟩

def sC (d : D) : LSt → Res D := fun l => .ok d l
def sVar (i : Nat) : LSt → Res D := fun l => match l.sl[i]? with
  | some (.v d) => .ok d l
  | some (.own co) => .ok co.d (l.put i (.v co.d))
  | _ => .bad
def opt {α : Type} (o : Option α) (l : LSt) : Res α := match o with
  | some d => .ok d l
  | none => .bad
def sBin (g : D → D → Option D) (a b : LSt → Res D) : LSt → Res D := fun l => (a l).bind fun x l => (b l).bind fun y l => opt (g x y) l
def sUn (g : D → Option D) (a : LSt → Res D) : LSt → Res D := fun l => (a l).bind fun x l => opt (g x) l

section
variable {X : Cx} {c : Ac} {W : WX} {a b e : Expr} {pos : Pos} {fa fb : LSt → Res D}
theorem de_flat {v : V} {d : D} (p : PE X e (tC v)) (r : ∀ Hf, RVal c.toCn c.ad Hf d v) : DE X c W e (sC d) :=
  ⟨p.imp' fun σ H Q ⟨Hf, l, R, h⟩ => h v H Hf R (Same.refl _) (r Hf)⟩
theorem de_int {i : Int} {j : Nat} : DE X c W (.Constant (.int i) j pos) (sC (.int i)) := de_flat pe_int fun _ => rfl
theorem de_bl {i : Bool} {j : Nat} : DE X c W (.Constant (.bool i) j pos) (sC (.bl i)) := de_flat pe_bl fun _ => rfl
theorem de_non {j : Nat} : DE X c W (.Constant .none j pos) (sC .non) := de_flat pe_non fun _ => rfl
theorem de_str {x : Str} {j : Nat} : DE X c W (.Constant (.str x) j pos) (sC (.str x)) := de_flat pe_str fun _ => rfl
theorem pe_fz {t : TE} (h : PE X e t) : PE X e (fun σ H Q => t σ H (LkP Q)) := ⟨fun pins s σ H Q I hw => thn (h.run pins s σ H _ I hw) fun v s1 ⟨x, H1, I1, r, q⟩ => by
  rcases q with q | ⟨d, u, ev, hd, mu, q⟩
  · exact ⟨x, H1, I1, r, q⟩
  · obtain ⟨od, I2⟩ := I1.lock hd mu
    exact ⟨x, _, I2, r, q od⟩⟩
theorem de_var {i : Nat} {x : Str} (p : PE X (.Name x pos) (tVar i)) : DE X c W (.Name x pos) (sVar i) :=
  ⟨(pe_fz p).imp' fun σ H Q ⟨Hf, l, R, h⟩ => by
    unfold sVar at h
    cases e : l.sl[i]? with
    | none =>
      rw [e] at h
      exact h.elim
    | some s =>
      rw [e] at h
      cases s with
      | un => exact h.elim
      | slf => exact h.elim
      | fn => exact h.elim
      | er _ _ => exact h.elim
      | v d =>
        obtain ⟨v, ev, r⟩ := R.val e
        exact ⟨v, ev, .inl (h v H Hf R (Same.refl _) r)⟩
      | own co =>
        obtain ⟨a, o, ev, ha, rc, n, q⟩ := R.freeze e
        exact ⟨.ref a, ev, rc.lkp ha fun od => h _ _ _ (q od).1 (same_upd n) (q od).2⟩⟩
def BinOk (c : Ac) (r : R2) (g : D → D → Option D) : Prop :=
  ∀ (Hf H : Hp) (σ : L2.St) (l : LSt) (d1 d2 d : D) (x y : V) (Q : VK), REnv c Hf σ H l → RVal c.toCn c.ad Hf d1 x → RVal c.toCn c.ad Hf d2 y → g d1 d2 = some d → PD c σ Q Hf d l → r x y H Q
theorem bin_run {r : R2} {g : D → D → Option D} (ok : BinOk c r g) (ha : ∀ σ H Q, tD c W fa σ H Q → True) {σ : L2.St} {H : Hp} {Q : VK} (h : tD c W (sBin g fa fb) σ H Q) : tOp r (tD c W fa) (tD c W fb) σ H Q := by
  obtain ⟨Hf, l, R, h⟩ := h
  refine run_bind PD.mo R h fun d1 l1 x H1 Hf1 R1 s1 r1 h1 => ?_
  refine run_bind PD.mo R1 h1 fun d2 l2 y H2 Hf2 R2 s2 r2 h2 => ?_
  cases e : g d1 d2 with
  | none =>
    rw [e] at h2
    exact h2.elim
  | some d =>
    rw [e] at h2
    exact ok Hf2 H2 σ l2 d1 d2 d x y Q R2 (r1.mono s2) r2 e h2
theorem de_op {op : Operator} {r : R2} {g : D → D → Option D} (ho : OpR X (binaryOp op) r) (ok : BinOk c r g) (ha : DE X c W a fa) (hb : DE X c W b fb) : DE X c W (.BinOp a op b pos) (sBin g fa fb) :=
  ⟨(pe_op ho ha.pe hb.pe).imp' fun _ _ _ h => bin_run ok (fun _ _ _ _ => True.intro) h⟩
theorem de_cmp {op : CmpOp} {r : R2} {g : D → D → Option D} (ho : OpR X (compareOp op) r) (ok : BinOk c r g) (ha : DE X c W a fa) (hb : DE X c W b fb) (hm : behindInMarks op b = false) : DE X c W (.Compare a [op] [b] pos) (sBin g fa fb) :=
  ⟨(pe_cmpR ho ha.pe hb.pe hm).imp' fun _ _ _ h => bin_run ok (fun _ _ _ _ => True.intro) h⟩
def UnOk (c : Ac) (r : V → Hp → VK → Prop) (g : D → Option D) : Prop :=
  ∀ (Hf H : Hp) (σ : L2.St) (l : LSt) (d1 d : D) (x : V) (Q : VK), REnv c Hf σ H l → RVal c.toCn c.ad Hf d1 x → g d1 = some d → PD c σ Q Hf d l → r x H Q
theorem un_run {r : V → Hp → VK → Prop} {g : D → Option D} (ok : UnOk c r g) {σ : L2.St} {H : Hp} {Q : VK} (h : tD c W (sUn g fa) σ H Q) : tD c W fa σ H fun x H1 => r x H1 Q := by
  obtain ⟨Hf, l, R, h⟩ := h
  refine run_bind PD.mo R h fun d1 l1 x H1 Hf1 R1 s1 r1 h1 => ?_
  cases e : g d1 with
  | none =>
    rw [e] at h1
    exact h1.elim
  | some d =>
    rw [e] at h1
    exact ok Hf1 H1 σ l1 d1 d x Q R1 r1 e h1
theorem de_un {op : UnaryOp} {r : V → Hp → VK → Prop} {g : D → Option D} (ho : UnR X (unaryOp op) r) (ok : UnOk c r g) (ha : DE X c W a fa) : DE X c W (.UnaryOp op a pos) (sUn g fa) :=
  ⟨(pe_un ho ha.pe).imp' fun _ _ _ h => un_run ok h⟩
end
end Dx

namespace Dx
open PySem PySem.Spec PyProof.Rows L2
theorem tuple_mulO (l : Addr) (items : Array Value) (n : Nat) (dd : Option Addr) (sl : Array (Option Value)) (u : Tok) :
    Meets (Builtin.«tuple.__mul__» ⟨[.ref l, .int 1 u], []⟩) (fun _ R s => s.heap.get? l = some { cls := .type "tuple", dict := dd, data := .seq items n, slots := sl } ∧
      R (.ok (.ret (Value.ref l))) s) :=
  .of_wp fun prog w A R s h => by
    obtain ⟨hp, g, d, tk, os⟩ := s
    obtain ⟨hl, h⟩ := h
    have f1 := AutoSeq1.idx_int
    have c0 : (decide ((1 : Int) < -(2 ^ 63)) || decide ((1 : Int) ≥ 2 ^ 63)) = false := by decide
    have c1 : (items.isEmpty || (1 : Int) == 1) = true := by rw [Bool.or_eq_true]; exact .inr rfl
    wp_walk using wpAny_loadPart' hl
    repeat (first
      | (refine wpAny_ite_false (decide_eq_false (by rw [c0]; exact Bool.false_ne_true)) ?_; wp_walk using wpAny_loadPart' hl)
      | (refine wpAny_ite_true (decide_eq_true c1) ?_; wp_walk using wpAny_loadPart' hl))
    exact ⟨_, rfl, h⟩
def rRepO (K : PySem.W.Frag) : R2 := fun x y H Q => ∃ l xs, x = .ref l ∧ y = .int 1 ∧ SqT K H l xs ∧ Q (.ref l) H
theorem op_repO {X : Cx} : OpR X (binaryOp .Mult) (rRepO X.K) := by
  intro pins s σ H x y v u Q I rx ry h
  obtain ⟨l, xs, rfl, rfl, hT, q⟩ := h
  cases rx
  obtain ⟨t, rfl⟩ := ry
  obtain ⟨its, r, ⟨⟨cls, dd, data, sl⟩, ho, hc, n, hd⟩, hs⟩ := I.tuple hT
  simp only at hc hd
  subst hc hd
  exact wpAny_binaryOp_repeat_ref (T := "tuple") (U := "int") (by decide) ⟨_, ho, rfl⟩ (fun s' => typeIs_int s' 1 t) noFill_tuple_mul F.fills_int_mul F.slot_int_rmul repeat_tuple F.slot_int_index.lookup
    (call_meets F.slot_int_rmul (typeIs_int s 1 t) F.entry_int_rmul (F.args_int_rmul_2 _ _) (int_rmul_tuple 1 t l its.toArray n dd sl)
      ⟨ho, rfl, ⟨_, ho, rfl⟩, call_meets F.slot_tuple_mul ⟨_, ho, rfl⟩ F.entry_tuple_mul (F.args_tuple_mul_2 _ _) (tuple_mulO l its.toArray n dd sl t) ⟨ho, .ref l, H, I, rfl, q⟩⟩)
theorem tuple_mulZ (l : Addr) (items : Array Value) (n : Nat) (dd : Option Addr) (sl : Array (Option Value)) (x : Int) (u : Tok) (c0 : (decide (x < -(2 ^ 63)) || decide (x ≥ 2 ^ 63)) = false) (c1 : (items.isEmpty || x == 1) = false) (c2 : (decide (x ≤ 0) || items.isEmpty) = true) :
    Meets (Builtin.«tuple.__mul__» ⟨[.ref l, .int x u], []⟩) (fun _ R s => s.heap.get? l = some { cls := .type "tuple", dict := dd, data := .seq items n, slots := sl } ∧
      R (.ok (.ret (Value.ref s.heap.objs.size))) { s with heap := s.heap.push { cls := Value.type "tuple", data := Data.seq #[] }, toks := s.toks }) :=
  .of_wp fun prog w A R s h => by
    obtain ⟨hp, g, d, tk, os⟩ := s
    obtain ⟨hl, h⟩ := h
    have f1 := AutoSeq1.idx_int
    wp_walk using wpAny_loadPart' hl
    repeat (first
      | (refine wpAny_ite_false (decide_eq_false (by rw [c0]; exact Bool.false_ne_true)) ?_; wp_walk using wpAny_loadPart' hl)
      | (refine wpAny_ite_false (decide_eq_false (by rw [c1]; exact Bool.false_ne_true)) ?_; wp_walk using wpAny_loadPart' hl)
      | (refine wpAny_ite_true (decide_eq_true c2) ?_; wp_walk using wpAny_loadPart' hl))
    exact ⟨_, rfl, h⟩
def rRepZ (K : PySem.W.Frag) : R2 := fun x y H Q => ∃ l k xs, x = .ref l ∧ y = .int k ∧ SqT K H l xs ∧ xs ≠ [] ∧ -1000 ≤ k ∧ k ≤ 0 ∧ ∀ p, H p = none → Q (.ref p) (upd H p (.tup []))
theorem op_repZ {X : Cx} : OpR X (binaryOp .Mult) (rRepZ X.K) := by
  intro pins s σ H x y v u Q I rx ry h
  obtain ⟨l, k, xs, rfl, rfl, hT, hne, h1, h2, q⟩ := h
  cases rx
  obtain ⟨t, rfl⟩ := ry
  obtain ⟨its, r, ⟨⟨cls, dd, data, sl⟩, ho, hc, n, hd⟩, hs⟩ := I.tuple hT
  simp only at hc hd
  subst hc hd
  have hle : its.length = xs.length := r.length.symm
  have hi : its.toArray.isEmpty = false := by
    cases its with
    | nil => exact absurd (List.eq_nil_of_length_eq_zero hle.symm) hne
    | cons a b => rfl
  have c0 : (decide (k < -(2 ^ 63)) || decide (k ≥ 2 ^ 63)) = false := by
    rw [decide_eq_false (by omega), decide_eq_false (by omega)] <;> rfl
  have c1 : (its.toArray.isEmpty || k == 1) = false := by
    rw [hi, Bool.false_or]
    exact beq_eq_false_iff_ne.mpr (by omega)
  have c2 : (decide (k ≤ 0) || its.toArray.isEmpty) = true := by
    rw [decide_eq_true h2]
    rfl
  refine wpAny_binaryOp_repeat_ref (T := "tuple") (U := "int") (by decide) ⟨_, ho, rfl⟩ (fun s' => typeIs_int s' k t) noFill_tuple_mul F.fills_int_mul F.slot_int_rmul repeat_tuple F.slot_int_index.lookup
    (call_meets F.slot_int_rmul (typeIs_int s k t) F.entry_int_rmul (F.args_int_rmul_2 _ _) (int_rmul_tuple k t l its.toArray n dd sl)
      ⟨ho, rfl, ⟨_, ho, rfl⟩, call_meets F.slot_tuple_mul ⟨_, ho, rfl⟩ F.entry_tuple_mul (F.args_tuple_mul_2 _ _) (tuple_mulZ l its.toArray n dd sl k t c0 c1 c2) ⟨ho, ?_⟩⟩)
  refine ⟨.ref s.heap.objs.size, _, I.laid (t' := s.toks) (o := .tup []) (fun b ob q => Heap.get?_push_of_some _ q) (Nat.le_refl _) ?_, rfl, q _ (I.hok.fresh (Nat.le_refl _))⟩
  exact ⟨by rw [sizeLine_eq]; exact Nat.zero_le _, _, .nil, IsTup.new _ _⟩
end Dx

namespace Dx
open PySem PySem.Spec PyProof.Rows L2
theorem gives_bb (a b : Bool) : Gives (Builtin.«int.__sub__» ⟨[.bool a, .bool b], []⟩) (.int ((if a = true then (1 : Int) else 0) - if b = true then (1 : Int) else 0)) :=
  .of_wp fun M A E s Q h => by obtain ⟨hp, g, d, tk, os⟩ := s; wp_walk; exact ⟨_, rfl, h⟩
section
variable {prog : Program} {w : World} {A : Around} {E : Value → Shared → Prop} {s : Shared} {a b : Bool}
theorem sub_bools {Q : Value → Shared → Prop} (h : Q (.int ((if a = true then (1 : Int) else 0) - if b = true then (1 : Int) else 0) s.toks) { s with toks := s.toks + 1 }) : wpAny (model prog w) A (binaryOp .Sub (.bool a) (.bool b)) Q E s :=
  binaryOp_gives (op := .Sub) (PySem.typeIs_bool s a) (PySem.typeIs_bool s b) PySem.F.fills_bool_sub PySem.F.slot_bool_sub PySem.F.entry_int_sub (PySem.F.args_int_sub_2 _ _) (gives_bb a b) trivial h
end
theorem op_sub_bb {X : Cx} : OpR X (binaryOp .Sub) (fun x y H Q => ∃ a b, x = .bl a ∧ y = .bl b ∧ Q (.int ((if a = true then (1 : Int) else 0) - if b = true then (1 : Int) else 0)) H) := by
  intro pins s σ H x y v u Q I rx ry h
  obtain ⟨a, b, rfl, rfl, q⟩ := h
  cases rx
  cases ry
  exact sub_bools ⟨.int _, H, I.tok _, ⟨_, rfl⟩, q⟩
end Dx

namespace Dx
open PySem PySem.Spec PyProof.Rows L2

abbrev szL : Nat := 16777216
theorem szL_eq : szL = sizeLine := sizeLine_eq.symm
section
variable {c : Ac} {Hf H : Hp} {σ : L2.St} {l : LSt} {Q : VK}
theorem PD.flat {v : V} {d : D} (R : REnv c Hf σ H l) (q : PD c σ Q Hf d l) (r : RVal c.toCn c.ad Hf d v) : Q v H := q v H Hf R (Same.refl _) r
theorem PD.new {p : Addr} {o : HO} {d : D} (R : REnv c Hf σ H l) (q : PD c σ Q Hf d l) (n : H p = none) (r : RVal c.toCn c.ad (upd Hf p o) d (.ref p)) : Q (.ref p) (upd H p o) :=
  q _ _ _ (R.alloc n) (same_upd (R.free n)) r
theorem RVal.tupNew {p : Addr} {ds : List D} {vs : List V} {cn : Cn} {ad : Ad} (n : Hf p = none) (r : RVals cn ad Hf ds vs) : RVal cn ad (upd Hf p (.tup vs)) (.tup ds) (.ref p) :=
  ⟨p, vs, rfl, upd_same, r.mono (same_upd n)⟩
theorem RVal.lstNew {p : Addr} {ds : List D} {vs : List V} {cn : Cn} {ad : Ad} (n : Hf p = none) (r : RVals cn ad Hf ds vs) : RVal cn ad (upd Hf p (.lst vs)) (.lst ds) (.ref p) :=
  ⟨p, vs, rfl, upd_same, r.mono (same_upd n)⟩
end

def mulOkB (i j : Int) : Bool := !(decide (Builtin.Int.intBits i > 64) && decide (Builtin.Int.intBits j > 64) && decide (Builtin.Int.intBits i + Builtin.Int.intBits j > 134217728))
theorem mulOk_of {i j : Int} (h : mulOkB i j = true) : IntMulOk i j := by
  unfold IntMulOk Builtin.Int.intTooBig
  unfold mulOkB at h
  intro z
  rw [show shortFactorBits = 64 from rfl] at z
  have e : bitsLine = 134217728 := by decide
  rw [e] at z
  simp only [Bool.and_eq_true, decide_eq_true_eq] at z
  simp only [Bool.not_eq_true', Bool.and_eq_false_iff, decide_eq_false_iff_not] at h
  omega
def addD : D → D → Option D
  | .int i, .int j => some (.int (i + j))
  | .int i, .bl k => some (.int (i + if k then 1 else 0))
  | .str x, .str y => if x.length + y.length ≤ szL then some (.str (x ++ y)) else none
  | .lst a, .lst b => if a.length + b.length ≤ szL then some (.lst (a ++ b)) else none
  | .tup a, .tup b => if a.length + b.length ≤ szL then some (.tup (a ++ b)) else none
  | _, _ => none
def subD : D → D → Option D
  | .int i, .int j => some (.int (i - j))
  | .bl a, .bl b => some (.int ((if a = true then (1 : Int) else 0) - if b = true then (1 : Int) else 0))
  | _, _ => none
def flatRep (k : Int) (a : List D) : List D := (List.replicate k.toNat a).flatten
def mulD : D → D → Option D
  | .int i, .int j => if mulOkB i j = true then some (.int (i * j)) else none
  | .lst a, .int k => if -(2 ^ 63) ≤ k ∧ k < 2 ^ 63 ∧ a.length * k.toNat ≤ szL then some (.lst (flatRep k a)) else none
  | .tup a, .int k => if a ≠ [] ∧ 2 ≤ k ∧ k ≤ 1000 ∧ a.length ≤ 1000 then some (.tup (flatRep k a)) else if k = 1 then some (.tup a) else if a ≠ [] ∧ -1000 ≤ k ∧ k ≤ 0 then some (.tup []) else none
  | _, _ => none
def divD : D → D → Option D
  | .int i, .int j => if 0 < j ∧ j.natAbs.log2 < 9000 then some (.int (i / j)) else if j ≠ 0 ∧ j.natAbs.log2 < 9000 then some (.int (i.fdiv j)) else none
  | _, _ => none
def modD : D → D → Option D
  | .int i, .int j => if 0 < j then some (.int (i % j)) else if j ≠ 0 then some (.int (i.fmod j)) else none
  | _, _ => none
def powD : D → D → Option D
  | .int i, .int j => if 0 ≤ j ∧ j ≤ 1000000 ∧ i.natAbs < 2 ^ 64 then some (.int (i ^ j.toNat)) else none
  | _, _ => none

def rCatA (K : PySem.W.Frag) : R2 := fun x y H Q => ∃ a b xs ys, x = .ref a ∧ y = .ref b ∧ SqT K H a xs ∧ SqT K H b ys ∧ xs.length + ys.length ≤ sizeLine ∧
  (xs = [] → Q (.ref b) H) ∧ (xs ≠ [] → ys = [] → Q (.ref a) H) ∧ (xs ≠ [] → ys ≠ [] → ∀ p, H p = none → Q (.ref p) (upd H p (.tup (xs ++ ys))))
section
variable {X : Cx}
theorem op_catA : OpR X (binaryOp .Add) (rCatA X.K) := by
  intro pins s σ H x y v u Q I rx ry h
  obtain ⟨a, b, xs, ys, rfl, rfl, ha, hb, hz, q0, q1, q2⟩ := h
  by_cases hx : xs = []
  · subst hx
    cases rx
    cases ry
    obtain ⟨its, r, ht, _⟩ := I.tuple ha
    obtain ⟨its2, r2, ht2, _⟩ := I.tuple hb
    cases r
    exact cat_tup0 ht ht2 ⟨.ref b, H, I, rfl, q0 rfl⟩
  · exact op_catT pins s σ H _ _ v u Q I rx ry ⟨a, b, xs, ys, rfl, rfl, ha, hb, hx, hz, q1 hx, q2 hx⟩
def rAddA (K : PySem.W.Frag) : R2 := fun x y H Q => (∃ i j, x = .int i ∧ y = .int j ∧ Q (.int (i + j)) H) ∨ ((∃ i k, x = .int i ∧ y = .bl k ∧ Q (.int (i + b2i k)) H) ∨
  ((∃ i j, x = .str i ∧ y = .str j ∧ i.length + j.length ≤ sizeLine ∧ Q (.str (i ++ j)) H) ∨ (rCat x y H Q ∨ rCatA K x y H Q)))
theorem op_addA : OpR X (binaryOp .Add) (rAddA X.K) := op_add.or (op_add_ib.or (op_add_str.or (op_cat.or op_catA)))
def rMulA (K : PySem.W.Frag) : R2 := fun x y H Q => rI IntMulOk (fun i j => .int (i * j)) x y H Q ∨ (rRep x y H Q ∨ (rRepT K x y H Q ∨ (rRepO K x y H Q ∨ rRepZ K x y H Q)))
theorem op_mulI : OpR X (binaryOp .Mult) (rI IntMulOk fun i j => .int (i * j)) := opI fun _ _ _ _ _ _ _ hc q => mul_int q hc
theorem op_mulA : OpR X (binaryOp .Mult) (rMulA X.K) := op_mulI.or (op_rep.or (op_repT.or (op_repO.or op_repZ)))
def CDivA (i j : Int) : Prop := j ≠ 0 ∧ j.natAbs.log2 < 9000
theorem op_divA : OpR X (binaryOp .FloorDiv) (rI CDivA fun i j => .int (i.fdiv j)) := opI fun i j _ _ _ _ _ hc q => floordiv_int hc.1 q (.inl (PyProof.noPylong_of_log2 hc.2))
end
section
variable {c : Ac}
theorem ok_add (hK : ∃ K, c.K = K) : BinOk c (rAddA c.K) addD := by
  intro Hf H σ l d1 d2 d x y Q R r1 r2 e q
  cases d1 <;> cases d2 <;> simp only [addD, reduceCtorEq] at e
  · cases e
    rename_i i k
    exact .inr (.inl ⟨i, k, r1, r2, q.flat R (by cases k <;> rfl)⟩)
  · cases e
    rename_i i j
    exact .inl ⟨i, j, r1, r2, q.flat R rfl⟩
  · rename_i i j
    split at e
    · rename_i hz
      cases e
      exact .inr (.inr (.inl ⟨i, j, r1, r2, by rw [← szL_eq]; exact hz, q.flat R rfl⟩))
    · cases e
  · rename_i i j
    split at e
    · rename_i hz
      cases e
      obtain ⟨a, xs, rfl, h1, v1⟩ := r1
      obtain ⟨b, ys, rfl, h2, v2⟩ := r2
      rw [v1.length, v2.length] at hz
      refine .inr (.inr (.inr (.inr ⟨a, b, xs, ys, rfl, rfl, sameT R.sub h1, sameT R.sub h2, by rw [← szL_eq]; exact hz, fun z => ?_, fun _ z => ?_, fun _ _ p n => ?_⟩)))
      · subst z
        have := v1.length
        have e1 : i = [] := List.length_eq_zero_iff.mp this
        subst e1
        exact q.flat R ⟨b, ys, rfl, h2, v2⟩
      · subst z
        have := v2.length
        have e1 : j = [] := List.length_eq_zero_iff.mp this
        subst e1
        rw [List.append_nil] at q
        exact q.flat R ⟨a, xs, rfl, h1, v1⟩
      · exact q.new R n (RVal.tupNew (R.free n) (v1.append v2))
    · cases e
  · rename_i i j
    split at e
    · rename_i hz
      cases e
      obtain ⟨a, xs, rfl, h1, v1⟩ := r1
      obtain ⟨b, ys, rfl, h2, v2⟩ := r2
      rw [v1.length, v2.length] at hz
      exact .inr (.inr (.inr (.inl ⟨a, b, xs, ys, rfl, rfl, R.sub _ _ h1, R.sub _ _ h2, by rw [← szL_eq]; exact hz, fun p n => q.new R n (RVal.lstNew (R.free n) (v1.append v2))⟩)))
    · cases e
def rSubA : R2 := fun x y H Q => rI0 (fun i j => .int (i - j)) x y H Q ∨ ∃ a b, x = .bl a ∧ y = .bl b ∧ Q (.int ((if a = true then (1 : Int) else 0) - if b = true then (1 : Int) else 0)) H
theorem op_subA {X : Cx} : OpR X (binaryOp .Sub) rSubA := op_sub.or op_sub_bb
theorem ok_sub : BinOk c rSubA subD := by
  intro Hf H σ l d1 d2 d x y Q R r1 r2 e q
  cases d1 <;> cases d2 <;> simp only [subD, reduceCtorEq] at e
  · cases e
    exact .inr ⟨_, _, r1, r2, q.flat R rfl⟩
  · cases e
    exact .inl ⟨_, _, r1, r2, q.flat R rfl⟩
theorem flatRep_vals {cn : Cn} {ad : Ad} {H : Hp} {ds : List D} {vs : List V} (r : RVals cn ad H ds vs) : ∀ n : Nat, RVals cn ad H (List.replicate n ds).flatten (List.replicate n vs).flatten
  | 0 => rfl
  | n + 1 => by
    rw [List.replicate_succ, List.replicate_succ, List.flatten_cons, List.flatten_cons]
    exact r.append (flatRep_vals r n)
theorem ok_mul : BinOk c (rMulA c.K) mulD := by
  intro Hf H σ l d1 d2 d x y Q R r1 r2 e q
  cases d1 <;> cases d2 <;> simp only [mulD, reduceCtorEq] at e
  · split at e
    · rename_i hz
      cases e
      exact .inl ⟨_, _, r1, r2, mulOk_of hz, q.flat R rfl⟩
    · cases e
  · rename_i i j
    split at e
    · rename_i hz
      cases e
      obtain ⟨a, xs, rfl, h1, v1⟩ := r1
      refine .inr (.inr (.inl ⟨a, j, xs, rfl, r2, sameT R.sub h1, fun z => ?_, hz.2.1, hz.2.2.1, by rw [← v1.length]; exact hz.2.2.2, fun p n => q.new R n (RVal.tupNew (R.free n) (flatRep_vals v1 _))⟩))
      subst z
      exact hz.1 (List.length_eq_zero_iff.mp v1.length)
    · split at e
      · rename_i hj
        cases e
        subst hj
        obtain ⟨a, xs, rfl, h1, v1⟩ := r1
        exact .inr (.inr (.inr (.inl ⟨a, xs, rfl, r2, sameT R.sub h1, q _ _ _ R (Same.refl _) ⟨a, xs, rfl, h1, v1⟩⟩)))
      · split at e
        · rename_i hz
          cases e
          obtain ⟨a, xs, rfl, h1, v1⟩ := r1
          refine .inr (.inr (.inr (.inr ⟨a, j, xs, rfl, r2, sameT R.sub h1, fun z => ?_, hz.2.1, hz.2.2, fun p n => q.new R n (RVal.tupNew (R.free n) rfl)⟩)))
          subst z
          exact hz.1 (List.length_eq_zero_iff.mp v1.length)
        · cases e
  · rename_i i j
    split at e
    · rename_i hz
      cases e
      obtain ⟨a, xs, rfl, h1, v1⟩ := r1
      exact .inr (.inl ⟨a, j, xs, rfl, r2, R.sub _ _ h1, hz.1, hz.2.1, by rw [← szL_eq, ← v1.length]; exact hz.2.2, fun p n => q.new R n (RVal.lstNew (R.free n) (flatRep_vals v1 _))⟩)
    · cases e
theorem ok_div : BinOk c (rI CDivA fun i j => .int (i.fdiv j)) divD := by
  intro Hf H σ l d1 d2 d x y Q R r1 r2 e q
  cases d1 <;> cases d2 <;> simp only [divD, reduceCtorEq] at e
  rename_i i j
  split at e
  · rename_i hz
    cases e
    refine ⟨i, j, r1, r2, ⟨by omega, hz.2⟩, q.flat R ?_⟩
    show V.int (i.fdiv j) = V.int (i / j)
    rw [Int.fdiv_eq_ediv_of_nonneg i (by omega)]
  · split at e
    · rename_i hz
      cases e
      exact ⟨i, j, r1, r2, hz, q.flat R rfl⟩
    · cases e
theorem ok_mod : BinOk c (rI (fun _ j => j ≠ 0) fun i j => .int (i.fmod j)) modD := by
  intro Hf H σ l d1 d2 d x y Q R r1 r2 e q
  cases d1 <;> cases d2 <;> simp only [modD, reduceCtorEq] at e
  rename_i i j
  split at e
  · rename_i hz
    cases e
    refine ⟨i, j, r1, r2, by omega, q.flat R ?_⟩
    show V.int (i.fmod j) = V.int (i % j)
    rw [Int.fmod_eq_emod_of_nonneg i (by omega)]
  · split at e
    · rename_i hz
      cases e
      exact ⟨i, j, r1, r2, hz, q.flat R rfl⟩
    · cases e
theorem ok_pow : BinOk c (rI CPow fun i j => .int (i ^ j.toNat)) powD := by
  intro Hf H σ l d1 d2 d x y Q R r1 r2 e q
  cases d1 <;> cases d2 <;> simp only [powD, reduceCtorEq] at e
  split at e
  · rename_i hz
    cases e
    exact ⟨_, _, r1, r2, hz, q.flat R rfl⟩
  · cases e
def negD : D → Option D
  | .int i => some (.int (-i))
  | _ => none
theorem ok_neg : UnOk c (rU fun i => .int (-i)) negD := by
  intro Hf H σ l d1 d x Q R r1 e q
  cases d1 <;> simp only [negD, reduceCtorEq] at e
  cases e
  exact ⟨_, r1, q.flat R rfl⟩
end

mutual
def D.pd : D → Option PyData
  | .non => some .none
  | .bl b => some (.bool b)
  | .int i => some (.int i)
  | .str x => some (.str x)
  | .tup ds => (D.pds ds).map .tuple
  | .lst ds => (D.pds ds).map .list
  | _ => none
def D.pds : List D → Option (List PyData)
  | [] => some []
  | d :: ds => match d.pd, D.pds ds with
    | some x, some xs => some (x :: xs)
    | _, _ => none
end
mutual
theorem pd_dp {cn : Cn} {ad : Ad} {H : Hp} : ∀ (d : D) (v : V) (p : PyData), RVal cn ad H d v → d.pd = some p → Dp cn.K H v p
  | .non, _, _, r, e => by
    simp only [D.pd] at e
    cases e
    cases r
    exact .non
  | .bl b, _, _, r, e => by
    simp only [D.pd] at e
    cases e
    cases r
    exact .bl b
  | .int i, _, _, r, e => by
    simp only [D.pd] at e
    cases e
    cases r
    exact .int i
  | .str i, _, _, r, e => by
    simp only [D.pd] at e
    cases e
    cases r
    exact .str i
  | .tup ds, _, p, ⟨a, vs, q, h, t⟩, e => by
    simp only [D.pd, Option.map_eq_some_iff] at e
    obtain ⟨ps, e1, e2⟩ := e
    subst e2 q
    exact .tup (tupS h) (pds_dp ds vs ps t e1)
  | .lst ds, _, p, ⟨a, vs, q, h, t⟩, e => by
    simp only [D.pd, Option.map_eq_some_iff] at e
    obtain ⟨ps, e1, e2⟩ := e
    subst e2 q
    exact .lst (SqL.of h) (pds_dp ds vs ps t e1)
  | .dK _ _, _, _, _, e => by simp [D.pd] at e
  | .dT _ _, _, _, _, e => by simp [D.pd] at e
  | .ins _ _, _, _, _, e => by simp [D.pd] at e
  | .scr _, _, _, _, e => by simp [D.pd] at e
  | .ty _, _, _, _, e => by simp [D.pd] at e
  | .glo _, _, _, _, e => by simp [D.pd] at e
  | .dice, _, _, _, e => by simp [D.pd] at e
  | .rng _ _, _, _, _, e => by simp [D.pd] at e
  | .gtp _, _, _, _, e => by simp [D.pd] at e

theorem pds_dp {cn : Cn} {ad : Ad} {H : Hp} : ∀ (ds : List D) (vs : List V) (ps : List PyData), RVals cn ad H ds vs → D.pds ds = some ps → DpAll cn.K H vs ps
  | [], _, _, r, e => by
    simp only [D.pds] at e
    cases e
    cases (show _ = [] from r)
    exact .nil
  | d :: ds, _, ps, ⟨v, r, q, h, t⟩, e => by
    subst q
    simp only [D.pds] at e
    split at e
    · rename_i x xs e1 e2
      cases e
      exact .cons (pd_dp d v x h e1) (pds_dp ds r xs t e2)
    · cases e
end
def eqD (d e : D) : Option D := match d.pd, e.pd with
  | some p, some q => if SeqAt.shaped p = true ∧ SeqAt.shaped q = true then some (.bl (PyData.eqv p q)) else none
  | _, _ => none
def neD (d e : D) : Option D := match d.pd, e.pd with
  | some p, some q => if SeqAt.shaped p = true ∧ SeqAt.shaped q = true then some (.bl (!PyData.eqv p q)) else none
  | _, _ => none
section
variable {c : Ac}
theorem ok_eq : BinOk c (rEqD c.K) eqD := by
  intro Hf H σ l d1 d2 d x y Q R r1 r2 e q
  unfold eqD at e
  split at e
  · rename_i p p2 e1 e2
    split at e
    · rename_i hz
      cases e
      exact ⟨p, p2, pd_dp _ _ _ (r1.mono R.sub) e1, pd_dp _ _ _ (r2.mono R.sub) e2, hz.1, hz.2, q.flat R rfl⟩
    · cases e
  · cases e
theorem ok_ne : BinOk c (rNeD c.K) neD := by
  intro Hf H σ l d1 d2 d x y Q R r1 r2 e q
  unfold neD at e
  split at e
  · rename_i p p2 e1 e2
    split at e
    · rename_i hz
      cases e
      exact ⟨p, p2, pd_dp _ _ _ (r1.mono R.sub) e1, pd_dp _ _ _ (r2.mono R.sub) e2, hz.1, hz.2, q.flat R rfl⟩
    · cases e
  · cases e
def cmpI (g : Int → Int → Bool) : D → D → Option D
  | .int i, .int j => some (.bl (g i j))
  | _, _ => none
theorem ok_cmpI {g : Int → Int → Bool} : BinOk c (rI0 fun i j => .bl (g i j)) (cmpI g) := by
  intro Hf H σ l d1 d2 d x y Q R r1 r2 e q
  cases d1 <;> cases d2 <;> simp only [cmpI, reduceCtorEq] at e
  cases e
  exact ⟨_, _, r1, r2, q.flat R rfl⟩
abbrev ltD := cmpI fun i j => decide (i < j)
abbrev leD := cmpI fun i j => decide (i ≤ j)
abbrev gtD := cmpI fun i j => decide (j < i)
end

def atD {α : Type} (xs : List α) (i : Int) : Option α := if 0 ≤ i then xs[i.toNat]? else if -(xs.length : Int) ≤ i then xs[(i + xs.length).toNat]? else none
theorem atD_atI {α : Type} {xs : List α} {i : Int} : atI xs i = atD xs i := by
  unfold atI atD ixN
  split
  · split
    · rfl
    · rename_i h1 h2
      rw [List.getElem?_eq_none (by omega)]
      rfl
  · split <;> rfl
def ixD : D → D → Option D
  | .tup ds, .int i => atD ds i
  | .lst ds, .int i => atD ds i
  | .scr ns, .int i => (atD ns i).map .int
  | .str z, .int i => if z.length ≤ szL then (atD z.cps.toList i).map fun c => .str ⟨#[c]⟩ else none
  | _, _ => none
theorem RVals.atD {cn : Cn} {ad : Ad} {H : Hp} {ds : List D} {vs : List V} {i : Int} {d : D} (r : RVals cn ad H ds vs) (e : atD ds i = some d) : ∃ v, atI vs i = some v ∧ RVal cn ad H d v := by
  rw [atD_atI]
  unfold Dx.atD at e ⊢
  rw [← r.length]
  split at e
  · rename_i h
    rw [if_pos h]
    exact r.get e
  · rename_i h
    rw [if_neg h]
    split at e
    · rename_i h2
      rw [if_pos h2]
      exact r.get e
    · cases e
section
variable {c : Ac}
theorem ok_ix : BinOk c (rIx c.K) ixD := by
  intro Hf H σ l d1 d2 d x y Q R r1 r2 e q
  cases d1 <;> cases d2 <;> simp only [ixD, reduceCtorEq] at e
  · split at e
    · rename_i hz
      rw [Option.map_eq_some_iff] at e
      obtain ⟨k, e1, e2⟩ := e
      subst e2
      exact .inr (.inr ⟨_, _, k, r1, r2, by rw [← szL_eq]; exact hz, by rw [atD_atI]; exact e1, q.flat R rfl⟩)
    · cases e
  · obtain ⟨a, vs, rfl, h, t⟩ := r1
    obtain ⟨v, e1, e2⟩ := t.atD e
    exact .inr (.inl ⟨a, vs, _, v, rfl, r2, sameT R.sub h, e1, q.flat R e2⟩)
  · obtain ⟨a, vs, rfl, h, t⟩ := r1
    obtain ⟨v, e1, e2⟩ := t.atD e
    exact .inl ⟨a, vs, _, v, rfl, r2, SqL.of (R.sub _ _ h), e1, q.flat R e2⟩
  · obtain ⟨a, rfl, h⟩ := r1
    rw [Option.map_eq_some_iff] at e
    obtain ⟨k, e1, e2⟩ := e
    subst e2
    rename_i ns i
    refine .inl ⟨a, ns.map V.int, i, .int k, rfl, r2, R.sub.seq h, ?_, q.flat R rfl⟩
    rw [atD_atI]
    unfold atD at e1 ⊢
    rw [List.length_map]
    split at e1
    · rename_i h1
      rw [if_pos h1, List.getElem?_map, e1]
      rfl
    · rename_i h1
      rw [if_neg h1]
      split at e1
      · rename_i h2
        rw [if_pos h2, List.getElem?_map, e1]
        rfl
      · cases e1
variable {X : Cx} {W : WX} {a b : Expr} {pos : Pos} {fa fb : LSt → Res D}
theorem de_ix (hK : X.K = c.K) (ha : DE X c W a fa) (hb : DE X c W b fb) (hs : PlainIx b) : DE X c W (.Subscript a b pos) (sBin ixD fa fb) :=
  ⟨(pe_ix (hK ▸ ix_seq) ha.pe hb.pe hs).imp' fun _ _ _ h => bin_run ok_ix (fun _ _ _ _ => True.intro) h⟩
end
end Dx

namespace Dx
open PySem PySem.Spec PyProof.Rows L2

def truD : D → Option Bool
  | .non => some false
  | .bl b => some b
  | .int i => some (i != 0)
  | .str y => if y.length ≤ szL then some ((y.length : Int) != 0) else none
  | .tup ds => some (!ds.isEmpty)
  | .lst ds => some (!ds.isEmpty)
  | _ => none
def sTru (a : LSt → Res D) : LSt → Res Bool := fun l => (a l).bind fun d l => opt (truD d) l
def blD : D → Option Bool
  | .bl b => some b
  | _ => none
def sTst (a : LSt → Res D) : LSt → Res Bool := fun l => (a l).bind fun d l => opt (blD d) l
def sNot (a : LSt → Res Bool) : LSt → Res Bool := fun l => (a l).bind fun b l => .ok (!b) l
def sAnd (a b : LSt → Res Bool) : LSt → Res Bool := fun l => (a l).bind fun x l => if x = true then b l else .ok false l
def sOr (a b : LSt → Res Bool) : LSt → Res Bool := fun l => (a l).bind fun x l => if x = true then .ok true l else b l
def sIf {α : Type} (t : LSt → Res Bool) (a b : LSt → Res α) : LSt → Res α := fun l => (t l).bind fun x l => if x = true then a l else b l
theorem isEmpty_len {α β : Type} {xs : List α} {ys : List β} (h : xs.length = ys.length) : (!xs.isEmpty) = !ys.isEmpty := by
  cases xs <;> cases ys <;> first | rfl | (simp at h)
section
variable {c : Ac} {W : WX}
theorem tru_run {K : PySem.W.Frag} (hK : K = c.K) {fa : LSt → Res D} {σ : L2.St} {H : Hp} {Q : Bool → Hp → Prop} (h : tB c W (sTru fa) σ H Q) : tD c W fa σ H fun x H' => ∃ k, TruV K x H' k ∧ Q k H' := by
  subst hK
  obtain ⟨Hf, l, R, h⟩ := h
  refine run_bind PB.mo R h fun d l1 v H1 Hf1 R1 s1 r1 h1 => ?_
  cases e : truD d with
  | none =>
    rw [e] at h1
    exact h1.elim
  | some b =>
    rw [e] at h1
    refine ⟨b, ?_, h1 H1 Hf1 R1 (Same.refl _)⟩
    cases d <;> simp only [truD, reduceCtorEq] at e
    · cases r1
      cases e
      rfl
    · cases r1
      cases e
      rfl
    · cases r1
      cases e
      rfl
    · split at e
      · rename_i hz
        cases r1
        cases e
        exact ⟨by rw [← szL_eq]; exact hz, rfl⟩
      · cases e
    · cases e
      obtain ⟨a, vs, rfl, h2, t⟩ := r1
      exact .inr (.inl ⟨vs, sameT R1.sub h2, isEmpty_len t.length⟩)
    · cases e
      obtain ⟨a, vs, rfl, h2, t⟩ := r1
      exact .inl ⟨vs, SqL.of (R1.sub _ _ h2), isEmpty_len t.length⟩
end
section
variable {X : Cx} {c : Ac} {W : WX} {a b e : Expr} {pos : Pos} {fa fb : LSt → Res D} {ta tb : LSt → Res Bool} {rest : List Expr}
theorem dt_tru (hK : X.K = c.K) (ha : DE X c W a fa) (he : ∀ whole, isTrue a X.env whole = (do let v ← whole; standAt a.pos; holding [v] (truthy v))) : DT X c W a (sTru fa) :=
  ⟨(pt_truth ha.pe he).imp' fun _ _ _ h => tru_run hK h⟩
theorem dt_cmp {op : CmpOp} {r : R2} {g : D → D → Option D} (ho : OpR X (compareOp op) r) (ok : BinOk c r g) (ha : DE X c W a fa) (hb : DE X c W b fb) (hm : behindInMarks op b = false) : DT X c W (.Compare a [op] [b] pos) (sTst (sBin g fa fb)) :=
  ⟨(pt_cmpR ho ha.pe hb.pe hm).imp' fun _ _ _ h => by
    obtain ⟨Hf, l, R, h⟩ := h
    refine bin_run ok (fun _ _ _ _ => True.intro) ⟨Hf, l, R, ?_⟩
    have h' : wpR ((sBin g fa fb l).bind fun d l => opt (blD d) l) (PB c _ _ Hf) (PX c W _ Hf) := h
    cases e : sBin g fa fb l with
    | bad =>
      rw [e] at h'
      exact h'
    | ex x l1 =>
      rw [e] at h'
      exact h'
    | ok d l1 =>
      rw [e] at h'
      cases d with
      | bl k => exact fun v H' Hf' R' s' r' => ⟨k, r', h' H' Hf' R' s'⟩
      | _ => exact h'.elim⟩
theorem dt_not (ha : DT X c W a ta) : DT X c W (.UnaryOp .Not a pos) (sNot ta) :=
  ⟨(pt_not ha.pt).imp' fun _ _ _ ⟨Hf, l, R, h⟩ => run_bindB PB.mo R h fun d l1 H1 Hf1 R1 s1 h1 => h1 H1 Hf1 R1 (Same.refl _)⟩
theorem dw_and1 (ha : DT X c W a ta) : DW X c W (.BoolOp .And [a] pos) ta := ⟨pw_and1 ha.pt⟩
theorem dw_or1 (ha : DT X c W a ta) : DW X c W (.BoolOp .Or [a] pos) ta := ⟨pw_or1 ha.pt⟩
theorem dw_and (ha : DT X c W a ta) (hb : DW X c W (.BoolOp .And (b :: rest) pos) tb) : DW X c W (.BoolOp .And (a :: b :: rest) pos) (sAnd ta tb) :=
  ⟨(pw_and ha.pt hb.pw).imp' fun _ _ _ ⟨Hf, l, R, h⟩ => run_bindB PB.mo R h fun d l1 H1 Hf1 R1 s1 h1 => by
    cases d with
    | true => exact ⟨Hf1, l1, R1, h1⟩
    | false => exact h1 H1 Hf1 R1 (Same.refl _)⟩
theorem dw_or (ha : DT X c W a ta) (hb : DW X c W (.BoolOp .Or (b :: rest) pos) tb) : DW X c W (.BoolOp .Or (a :: b :: rest) pos) (sOr ta tb) :=
  ⟨(pw_or ha.pt hb.pw).imp' fun _ _ _ ⟨Hf, l, R, h⟩ => run_bindB PB.mo R h fun d l1 H1 Hf1 R1 s1 h1 => by
    cases d with
    | false => exact ⟨Hf1, l1, R1, h1⟩
    | true => exact h1 H1 Hf1 R1 (Same.refl _)⟩
theorem dt_w (h : DW X c W e ta) : DT X c W e ta := ⟨h.pw.pt⟩
theorem de_ifExp {t : Expr} {tt : LSt → Res Bool} (ht : DT X c W t tt) (ha : DE X c W a fa) (hb : DE X c W b fb) : DE X c W (.IfExp t a b pos) (sIf tt fa fb) :=
  ⟨(pe_ifExp ht.pt ha.pe hb.pe).imp' fun _ _ _ ⟨Hf, l, R, h⟩ => run_bindB PD.mo R h fun d l1 H1 Hf1 R1 s1 h1 => by
    cases d with
    | true => exact ⟨Hf1, l1, R1, h1⟩
    | false => exact ⟨Hf1, l1, R1, h1⟩⟩
end

def sNil : LSt → Res (List D) := fun l => .ok [] l
def sCons (a : LSt → Res D) (r : LSt → Res (List D)) : LSt → Res (List D) := fun l => (a l).bind fun x l => (r l).bind fun xs l => .ok (x :: xs) l
def seqD : D → Option (List D)
  | .tup ds => some ds
  | .lst ds => some ds
  | _ => none
def sTup (a : LSt → Res (List D)) : LSt → Res D := fun l => (a l).bind fun xs l => if xs.length ≤ szL then .ok (.tup xs) l else .bad
def sLst (a : LSt → Res (List D)) : LSt → Res CO := fun l => (a l).bind fun xs l => if xs.length ≤ szL then .ok (.lst xs) l else .bad
def sFrz (a : LSt → Res CO) : LSt → Res D := fun l => (a l).bind fun co l => .ok co.d l
theorem REnv.see {c : Ac} {Hf H : Hp} {σ : L2.St} {l : LSt} (R : REnv c Hf σ H l) {a : Addr} {o : HO} (o' : HO) (h : H a = some o) (n : Hf a = none) (n0 : c.hid a = none) (nd : ¬ isD c.toCn l.g c.ad a)
    (fr : ∀ (j : Nat) (s : Slot), l.sl[j]? = some s → isOwn s = true → σ[j]? ≠ some (some (.ref a))) : REnv c (upd Hf a o') σ (upd H a o') l where
  len := R.len
  slot := fun j s hj => by
    obtain ⟨x, e, q⟩ := R.slot j s hj
    refine ⟨x, e, ?_⟩
    cases s with
    | un => exact True.intro
    | slf => exact q
    | fn => exact q
    | er _ _ => exact q.mono (same_upd n)
    | v d =>
      obtain ⟨v, qv, rv⟩ := q
      exact ⟨v, qv, rv.mono (same_upd n)⟩
    | own co' =>
      obtain ⟨a', o2, qa, ha', r', n', n0', nd'⟩ := q
      have ne : a' ≠ a := fun z => fr j _ hj rfl (by rw [e, qa, z])
      exact ⟨a', o2, qa, by rw [upd_ne ne]; exact ha', r'.mono (same_upd n), by rw [upd_ne ne]; exact n', n0', nd'⟩
  dis := R.dis
  sub := fun b u e => by
    by_cases e' : b = a
    · subst e'
      rw [upd_same] at e ⊢
      exact e
    · rw [upd_ne e'] at e ⊢
      exact R.sub b u e
  base := R.base.trans (same_upd n)
  frame := fun b u h1 => by
    obtain ⟨e1, e2, e3⟩ := R.frame b u h1
    have ne : b ≠ a := fun z => by rw [z, n0] at h1; cases h1
    rw [upd_ne ne, upd_ne ne]
    exact ⟨e1, e2, e3⟩
  dice := R.dice.other nd (same_upd n) (fun b hb => upd_ne hb) (fun b hb => upd_ne hb) fun xs hx => by rw [upd_same] at hx ⊢; exact hx
  hgs := R.hgs
section
variable {X : Cx} {c : Ac} {W : WX} {a b e : Expr} {es : List Expr} {pos p : Pos} {fa fb : LSt → Res D} {fs : LSt → Res (List D)}
theorem da_nil : DA X c W [] sNil := ⟨pa_nil.imp' fun _ _ _ ⟨Hf, l, R, h⟩ => h [] _ Hf R (Same.refl _) .nil⟩
theorem da_cons (ha : DE X c W a fa) (hr : DA X c W es fs) (hs : starEach (a :: es) X.env = (false, eval a X.env) :: starEach es X.env := by rfl) : DA X c W (a :: es) (sCons fa fs) :=
  ⟨(pa_cons ha.pe hr.pa hs).imp' fun _ _ _ ⟨Hf, l, R, h⟩ => run_bind PA'.mo R h fun d l1 v H1 Hf1 R1 s1 r1 h1 => run_bindA PA'.mo R1 h1 fun ds l2 vs H2 Hf2 R2 s2 r2 h2 => h2 (v :: vs) H2 Hf2 R2 (Same.refl _) (.cons (r1.mono s2) r2)⟩
theorem de_tup {x1 : Nat} (h : DA X c W es fs) : DE X c W (.Tuple es x1 pos) (sTup fs) :=
  ⟨(pe_tup h.pa).imp' fun _ _ _ ⟨Hf, l, R, h⟩ => run_bindA PD.mo R h fun ds l1 vs H1 Hf1 R1 s1 r1 h1 => by
    split at h1
    · rename_i hz
      exact ⟨by rw [← szL_eq, ← r1.length]; exact hz, fun p n => PD.new R1 h1 n (RVal.tupNew (R1.free n) r1)⟩
    · exact h1.elim⟩
theorem do_new {σ : L2.St} {H : Hp} {l : LSt} {Hf : Hp} {Q : VK} {co : CO} {p : Addr} {o : HO} (R : REnv c Hf σ H l) (q : PO' c σ Q Hf co l) (n : H p = none) (r : RCO c.toCn c.ad Hf co o) : Q (.ref p) (upd H p o) := by
  refine q p o _ Hf (R.hid n fun xs z => by subst z; exact r.notup) (Same.refl _) upd_same r (R.free n) ?_ ?_ ?_
  · cases e : c.hid p with
    | none => rfl
    | some u =>
      have := (R.frame p u e).1
      rw [n] at this
      cases this
  · exact R.dice.new n
  · intro j s hj ho e
    cases s with
    | own co' =>
      obtain ⟨a', o', e', ha', _⟩ := R.own hj
      rw [e'] at e
      cases e
      rw [n] at ha'
      cases ha'
    | _ => cases ho
theorem do_lst (h : DA X c W es fs) : DO X c W (.List es pos) (sLst fs) :=
  ⟨(pe_lst h.pa).imp' fun _ _ _ ⟨Hf, l, R, h⟩ => run_bindA PO'.mo R h fun ds l1 vs H1 Hf1 R1 s1 r1 h1 => by
    split at h1
    · rename_i hz
      exact ⟨by rw [← szL_eq, ← r1.length]; exact hz, fun p n => do_new R1 h1 n ⟨vs, rfl, r1⟩⟩
    · exact h1.elim⟩
theorem de_frz {fo : LSt → Res CO} (h : DO X c W e fo) : DE X c W e (sFrz fo) :=
  ⟨(pe_fz h.pe).imp' fun _ _ _ ⟨Hf, l, R, h⟩ => run_bindO PD.mo R h fun co l1 h1 => fun a o H' Hf' R' s' ha r n n0 nd fr => r.lkp ha fun od => h1 _ _ _ (R'.see _ ha n n0 nd fr) (s'.trans (same_upd n)) (r.val od n)⟩
end

def REV (cn : Cn) (ad : Ad) (H Hf' H' : Hp) (g' : G) : EV → V → Prop
  | .v d, v => RVal cn ad Hf' d v
  | .o co, v => ∃ a o, v = .ref a ∧ H' a = some o ∧ RCO cn ad Hf' co o ∧ Hf' a = none ∧ H a = none ∧ ¬ isD cn g' ad a
structure Aft (cn : Cn) (ad : Ad) (g g' : G) (H Hf H' Hf' : Hp) : Prop where
  grow : Same Hf Hf'
  sub : Same Hf' H'
  frame : ∀ a o, H a = some o → Hf a = none → ¬ isD cn g ad a → H' a = some o ∧ Hf' a = none
  dice : DiceOk cn Hf' H' ad g'
  hgs : g'.sh = g.sh
def spF (cn : Cn) (m : Fm) : Sp := fun vs H Q E => ∃ (Hf : Hp) (ad : Ad) (ds : List D) (g : G), Same Hf H ∧ DiceOk cn Hf H ad g ∧ RVals cn ad Hf ds vs ∧
  match m ds g with
  | .ok e g' => ∀ v H' Hf', Aft cn ad g g' H Hf H' Hf' → REV cn ad H Hf' H' g' e v → Q v H'
  | .ex x g' => ∀ cls dd H' Hf', Aft cn ad g g' H Hf H' Hf' → RX cn ad Hf' x cls dd → E cls dd H'
  | .bad => False
theorem isD_iff {g g' : G} {ad : Ad} {a : Addr} (h : g'.sh = g.sh) : isD cn g' ad a ↔ isD cn g ad a := by
  unfold isD
  rw [h]
def LSt.withG (l : LSt) (g : G) : LSt := { l with g := g }
theorem REnv.after {c : Ac} {Hf H Hf' H' : Hp} {σ : L2.St} {l : LSt} {g' : G} (R : REnv c Hf σ H l) (A : Aft c.toCn c.ad l.g g' H Hf H' Hf') : REnv c Hf' σ H' (l.withG g') where
  len := R.len
  slot := fun j s hj => by
    obtain ⟨x, e, q⟩ := R.slot j s hj
    refine ⟨x, e, ?_⟩
    cases s with
    | un => exact True.intro
    | slf => exact q
    | fn => exact q
    | er _ _ => exact q.mono A.grow
    | v d =>
      obtain ⟨v, qv, rv⟩ := q
      exact ⟨v, qv, rv.mono A.grow⟩
    | own co' =>
      obtain ⟨a', o', qa, ha', r', n', n0', nd'⟩ := q
      obtain ⟨e1, e2⟩ := A.frame a' o' ha' n' nd'
      exact ⟨a', o', qa, e1, r'.mono A.grow, e2, n0', fun z => nd' ((isD_iff A.hgs).mp z)⟩
  dis := R.dis
  sub := A.sub
  base := R.base.trans A.grow
  frame := fun b u h1 => by
    obtain ⟨e1, e2, e3⟩ := R.frame b u h1
    obtain ⟨e4, e5⟩ := A.frame b u e1 e2 e3
    exact ⟨e4, e5, fun z => e3 ((isD_iff A.hgs).mp z)⟩
  dice := A.dice
  hgs := A.hgs.trans R.hgs
def sCall (m : Fm) (a : LSt → Res (List D)) : LSt → Res D := fun l => (a l).bind fun ds l => match m ds l.g with
  | .ok e g => .ok e.d (l.withG g)
  | .ex x g => .ex x (l.withG g)
  | .bad => .bad
def sCallO (m : Fm) (a : LSt → Res (List D)) : LSt → Res CO := fun l => (a l).bind fun ds l => match m ds l.g with
  | .ok (.o co) g => .ok co (l.withG g)
  | .ok (.v _) _ => .bad
  | .ex x g => .ex x (l.withG g)
  | .bad => .bad
section
variable {X : Cx} {c : Ac} {W : WX} {e : Expr} {es : List Expr} {pos p : Pos} {fs : LSt → Res (List D)} {m : Fm} {k : Nat} {f : Addr} {fd : FuncData} {ps : List Str} {x : Str}
theorem spF_of {σ : L2.St} {H Hf : Hp} {l : LSt} {Q : VK} {ds : List D} {vs : List V} (R : REnv c Hf σ H l) (r : RVals c.toCn c.ad Hf ds vs)
    (h : match m ds l.g with
      | .ok e g => PD c σ Q Hf e.d (l.withG g)
      | .ex x g => PX c W σ Hf x (l.withG g)
      | .bad => False) : spF c.toCn m vs H (LkP Q) (WE W σ) := by
  refine ⟨Hf, c.ad, ds, l.g, R.sub, R.dice, r, ?_⟩
  cases e : m ds l.g with
  | bad =>
    rw [e] at h
    exact h
  | ex x g =>
    rw [e] at h
    exact fun cls dd H' Hf' A rx => h cls dd H' Hf' (R.after A) A.grow rx
  | ok ev g =>
    rw [e] at h
    intro v H' Hf' A rv
    cases ev with
    | v d => exact .inl (h v H' Hf' (R.after A) A.grow rv)
    | o co =>
      obtain ⟨a, o, rfl, ha, rc, n, nH, nd⟩ := rv
      have R' := R.after A
      have n0 : c.hid a = none := by
        cases e0 : c.hid a with
        | none => rfl
        | some u =>
          have := (R.frame a u e0).1
          rw [nH] at this
          cases this
      refine rc.lkp ha fun od => h _ _ _ (R'.see _ ha n n0 nd ?_) (A.grow.trans (same_upd n)) (rc.val od n)
      intro j s hj ho e'
      cases s with
      | own co' =>
        obtain ⟨a', o', e2, ha', _⟩ := R.own (i := j) hj
        rw [e2] at e'
        cases e'
        rw [nH] at ha'
        cases ha'
      | _ => cases ho
theorem spF_ofO {σ : L2.St} {H Hf : Hp} {l : LSt} {Q : VK} {ds : List D} {vs : List V} (R : REnv c Hf σ H l) (r : RVals c.toCn c.ad Hf ds vs)
    (h : match m ds l.g with
      | .ok (.o co) g => PO' c σ Q Hf co (l.withG g)
      | .ok (.v _) _ => False
      | .ex x g => PX c W σ Hf x (l.withG g)
      | .bad => False) : spF c.toCn m vs H Q (WE W σ) := by
  refine ⟨Hf, c.ad, ds, l.g, R.sub, R.dice, r, ?_⟩
  cases e : m ds l.g with
  | bad =>
    rw [e] at h
    exact h
  | ex x g =>
    rw [e] at h
    exact fun cls dd H' Hf' A rx => h cls dd H' Hf' (R.after A) A.grow rx
  | ok ev g =>
    rw [e] at h
    intro v H' Hf' A rv
    cases ev with
    | v d => exact h.elim
    | o co =>
      obtain ⟨a, o, rfl, ha, rc, n, nH, nd⟩ := rv
      have R' := R.after A
      have n0 : c.hid a = none := by
        cases e0 : c.hid a with
        | none => rfl
        | some u =>
          have := (R.frame a u e0).1
          rw [nH] at this
          cases this
      refine h a o H' Hf' R' A.grow ha rc n n0 nd ?_
      intro j s hj ho e'
      cases s with
      | own co' =>
        obtain ⟨a', o', e2, ha', _⟩ := R.own (i := j) hj
        rw [e2] at e'
        cases e'
        rw [nH] at ha'
        cases ha'
      | _ => cases ho
end
def BltOk (c : Ac) (r : List V → Hp → VK → Prop) (g : List D → Option D) : Prop :=
  ∀ (Hf H : Hp) (σ : L2.St) (l : LSt) (ds : List D) (d : D) (vs : List V) (Q : VK), REnv c Hf σ H l → RVals c.toCn c.ad Hf ds vs → g ds = some d → PD c σ Q Hf d l → r vs H Q
def sBlt (g : List D → Option D) (a : LSt → Res (List D)) : LSt → Res D := fun l => (a l).bind fun ds l => opt (g ds) l
theorem blt_run {c : Ac} {W : WX} {r : List V → Hp → VK → Prop} {g : List D → Option D} {fs : LSt → Res (List D)} (ok : BltOk c r g) {σ : L2.St} {H : Hp} {Q : VK} (h : tD c W (sBlt g fs) σ H Q) : tA c W fs σ H fun vs H1 => r vs H1 Q := by
  obtain ⟨Hf, l, R, h⟩ := h
  refine run_bindA PD.mo R h fun ds l1 vs H1 Hf1 R1 s1 r1 h1 => ?_
  cases e : g ds with
  | none =>
    rw [e] at h1
    exact h1.elim
  | some d =>
    rw [e] at h1
    exact ok Hf1 H1 σ l1 ds d vs Q R1 r1 e h1
end Dx

namespace Dx
open PySem PySem.Spec PyProof.Rows L2
section
variable {prog : Program} {w : World} {A : Around} {E : Value → Shared → Prop} {s : Shared}
theorem draw_list {it t : Addr} {items : Array Value} (hne : t ≠ it) : ∀ (n i : Nat) (s : Shared) (Q : List Value → Shared → Prop), s.heap.IsListIter it t i → s.heap.IsList t items → i + n ≤ items.size →
    (∀ h' : Heap, h'.IsListIter it t (i + n) → Heap.SameBut it s.heap h' → Q ((items.toList.drop i).take n) { s with heap := h' }) → wpAny (model prog w) A (draw (.ref it) n) Q E s
  | 0, i, s, Q, hit, _, _, hQ => by
    show wpAny _ _ (pure []) Q E s
    exact wpAny_pure (by simpa using hQ s.heap hit (Heap.SameBut.refl ..))
  | n + 1, i, s, Q, hit, ht, hle, hQ => by
    have hlt : i < items.size := by omega
    show wpAny _ _ (pyNext (.ref it) >>= _) Q E s
    refine wpAny_bind (wpAny_pyNext_list_item hit ht (x := items[i]) (by simp [hlt]) fun h₁ hit₁ hs₁ => ?_)
    refine wpAny_bind (wpAny_holding (draw_list hne n (i + 1) _ _ hit₁ (ht.extBut hs₁.extBut hne) (by omega) fun h₂ hit₂ hs₂ => wpAny_pure ?_))
    have hd : items.toList.drop i = items[i] :: items.toList.drop (i + 1) := by simp [List.drop_eq_getElem_cons, hlt]
    have := hQ h₂ (by rw [show i + (n + 1) = i + 1 + n by omega]; exact hit₂) (hs₁.trans hs₂)
    rw [hd, List.take_succ_cons] at this
    exact this
theorem unpackItems_list {t : Addr} {items : Array Value} {Q : List Value → Shared → Prop} (hh : A.handled = none) (ht : s.heap.IsList t items)
    (hQ : ∀ h', Heap.ExtBut s.heap.objs.size s.heap h' → Q items.toList { s with heap := h' }) : wpAny (model prog w) A (unpackItems (.ref t) items.size none) Q E s := by
  have hlt : t ≠ s.heap.objs.size := by obtain ⟨o, ho, _⟩ := ht; exact Nat.ne_of_lt (Heap.lt_size ho)
  unfold unpackItems
  refine wpAny_bind ?_
  · unfold notIterableAtAll
    refine wpAny_bind (wpAny_specialOf ht.typeIs slot_list_iter.lookup ?_)
    refine wpAny_pure ?_
    simp only [Bool.false_eq_true, if_false]
    refine wpAny_bind (wpAny_holding (wpAny_pyIter_list ht ?_))
    refine wpAny_bind (wpAny_holding (draw_list hlt items.size 0 _ _ ⟨_, Heap.get?_push_size _ rfl, rfl, rfl⟩ (ht.push _) (by omega) fun h₁ hit₁ hs₁ => ?_))
    have hall : List.take items.size (List.drop 0 items.toList) = items.toList := by
      rw [List.drop_zero]; exact List.take_of_length_le (by simp)
    rw [hall]
    rw [if_neg (by simp)]
    have ht₁ : h₁.IsList t items := (ht.push _).extBut hs₁.extBut hlt
    refine wpAny_bind (wpAny_holding (wpAny_pyNext_list_end hh hit₁ ht₁ (by simp) fun h₂ he₂ => ?_))
    simp only [Option.isSome_none, Bool.false_eq_true, if_false]
    refine wpAny_pure (hQ h₂ fun b o hb e => he₂ b o hb (hs₁.extBut b o hb (Heap.get?_push_of_some _ e)))
theorem assign_Tuple_list {env : Env} {elts : List Expr} {x1} {pos : Pos} {t : Addr} {items : Array Value} {Q : Unit → Shared → Prop} (hh : A.handled = none) (ht : s.heap.IsList t items)
    (hn : (assignEach elts env).length = items.size) (hstar : (assignEach elts env).findIdx? (·.1) = none)
    (h : ∀ h', Heap.ExtBut s.heap.objs.size s.heap h' → wpAny (model prog w) A (assignInOrder ((assignEach elts env).map (·.2)) items.toList) Q E { s with heap := h' }) :
    wpAny (model prog w) A (assign (.Tuple elts x1 pos) env (.ref t)) Q E s := by
  rw [assign_Tuple]
  refine wpAny_bind (wpAny_standAt ?_)
  unfold unpack
  rw [hn, hstar]
  exact wpAny_bind (wpAny_holding (unpackItems_list hh ht h))
end
section
variable {X : Cx} {pos : Pos}
def gSeq (K : PySem.W.Frag) (n : Nat) (t : TGs) : TG := fun v σ H Q => gTup K n t v σ H Q ∨ ∃ a xs, v = .ref a ∧ SqL K H a xs ∧ xs.length = n ∧ t xs σ H Q
theorem pg_seq {es : List Expr} {k : Nat} {t : TGs} {n : Nat} (hc : X.calm = true) (h : PGs X es t)
    (hn : (assignEach es X.env).length = n := by rfl) (hst : (assignEach es X.env).findIdx? (·.1) = none := by rfl) : PG X (.Tuple es k pos) (gSeq X.K n t) := by
  have h0 := pg_tup (pos := pos) (k := k) hc h hn hst
  refine ⟨fun pins s σ H v u Q I r hw => ?_⟩
  rcases hw with hw | ⟨a, xs, e1, hq, hl, hw⟩
  · exact h0.run pins s σ H v u Q I r hw
  · subst e1
    cases r
    obtain ⟨its, rv, ht, hz⟩ := I.list hq
    refine assign_Tuple_list (I.ok.hd hc) ht.isList (by simp [hn, ← hl, rv.length]) hst fun h' hx => ?_
    have I1 : Inv X pins σ H { s with heap := h' } := I.kept (t' := s.toks) fun b o e => hx b o (Nat.ne_of_lt (Heap.lt_size e)) e
    exact h.run pins _ σ H xs _ Q I1 (by simpa using rv) hw
end
end Dx

namespace Dx
open PySem PySem.Spec PyProof.Rows L2

def REVa (c : Ac) (Hf' H' : Hp) (g' : G) : EV → V → Prop
  | .v d, v => RVal c.toCn c.ad Hf' d v
  | .o co, v => ∃ a o, v = .ref a ∧ H' a = some o ∧ RCO c.toCn c.ad Hf' co o ∧ Hf' a = none ∧ c.hid a = none ∧ ¬ isD c.toCn g' c.ad a
def wpF (c : Ac) (W : WX) (D : Ends) (Hf : Hp) : Fl → Prop
  | .nx l => ∀ σ H Hf', REnv c Hf' σ H l → Same Hf Hf' → D.nx σ H
  | .rt e l => ∀ v σ H Hf', REnv c Hf' σ H l → Same Hf Hf' → REVa c Hf' H l.g e v → D.rt v H
  | .bk l => ∀ σ H Hf', REnv c Hf' σ H l → Same Hf Hf' → D.bk σ H
  | .ct l => ∀ σ H Hf', REnv c Hf' σ H l → Same Hf Hf' → D.ct σ H
  | .ex x l => ∀ cls dd σ H Hf', REnv c Hf' σ H l → Same Hf Hf' → RX c.toCn c.ad Hf' x cls dd → W cls dd σ H
  | .bad => False
theorem wpF.mo {c : Ac} {W : WX} {D : Ends} {Hf Hf1 : Hp} (s : Same Hf Hf1) : ∀ {f : Fl}, wpF c W D Hf f → wpF c W D Hf1 f
  | .nx l, h => fun σ H Hf' R s' => h σ H Hf' R (s.trans s')
  | .rt e l, h => fun v σ H Hf' R s' r => h v σ H Hf' R (s.trans s') r
  | .bk l, h => fun σ H Hf' R s' => h σ H Hf' R (s.trans s')
  | .ct l, h => fun σ H Hf' R s' => h σ H Hf' R (s.trans s')
  | .ex x l, h => fun cls dd σ H Hf' R s' r => h cls dd σ H Hf' R (s.trans s') r
  | .bad, h => h
def tS (c : Ac) (W : WX) (f : LSt → Fl) : TS := fun D σ H => ∃ Hf l, REnv c Hf σ H l ∧ wpF c W D Hf (f l)
structure DS (X : Cx) (c : Ac) (W : WX) (s : Stmt) (f : LSt → Fl) : Prop where ps : PS X s (tS c W f)
structure DSs (X : Cx) (c : Ac) (W : WX) (s : List Stmt) (f : LSt → Fl) : Prop where pss : PSs X s (tS c W f)

def Res.toFl {α : Type} (r : Res α) (k : α → LSt → Fl) : Fl := match r with
  | .ok a l => k a l
  | .ex x l => .ex x l
  | .bad => .bad
def Fl.seq (r : Fl) (k : LSt → Fl) : Fl := match r with
  | .nx l => k l
  | r => r
section
variable {c : Ac} {W : WX} {Hf H : Hp} {σ : L2.St} {l : LSt} {D : Ends}
theorem to_bind {f : LSt → Res Dx.D} {k : Dx.D → LSt → Fl} {Q : VK} (R : REnv c Hf σ H l) (h : wpF c W D Hf ((f l).toFl k))
    (hk : ∀ d l1 v H1 Hf1, REnv c Hf1 σ H1 l1 → Same Hf Hf1 → RVal c.toCn c.ad Hf1 d v → wpF c W D Hf1 (k d l1) → Q v H1) : tD c W f σ H Q := by
  refine ⟨Hf, l, R, ?_⟩
  cases e : f l with
  | ok d l1 =>
    rw [e] at h
    exact fun v H1 Hf1 R1 s1 r1 => hk d l1 v H1 Hf1 R1 s1 r1 (h.mo s1)
  | ex x l1 =>
    rw [e] at h
    exact fun cls dd H' Hf' R' s' r => h cls dd σ H' Hf' R' s' r
  | bad =>
    rw [e] at h
    exact h
theorem to_bindB {f : LSt → Res Bool} {k : Bool → LSt → Fl} {Q : Bool → Hp → Prop} (R : REnv c Hf σ H l) (h : wpF c W D Hf ((f l).toFl k))
    (hk : ∀ d l1 H1 Hf1, REnv c Hf1 σ H1 l1 → Same Hf Hf1 → wpF c W D Hf1 (k d l1) → Q d H1) : tB c W f σ H Q := by
  refine ⟨Hf, l, R, ?_⟩
  cases e : f l with
  | ok d l1 =>
    rw [e] at h
    exact fun H1 Hf1 R1 s1 => hk d l1 H1 Hf1 R1 s1 (h.mo s1)
  | ex x l1 =>
    rw [e] at h
    exact fun cls dd H' Hf' R' s' r => h cls dd σ H' Hf' R' s' r
  | bad =>
    rw [e] at h
    exact h
theorem to_bindA {f : LSt → Res (List Dx.D)} {k : List Dx.D → LSt → Fl} {Q : List V → Hp → Prop} (R : REnv c Hf σ H l) (h : wpF c W D Hf ((f l).toFl k))
    (hk : ∀ ds l1 vs H1 Hf1, REnv c Hf1 σ H1 l1 → Same Hf Hf1 → RVals c.toCn c.ad Hf1 ds vs → wpF c W D Hf1 (k ds l1) → Q vs H1) : tA c W f σ H Q := by
  refine ⟨Hf, l, R, ?_⟩
  cases e : f l with
  | ok d l1 =>
    rw [e] at h
    exact fun v H1 Hf1 R1 s1 r1 => hk d l1 v H1 Hf1 R1 s1 r1 (h.mo s1)
  | ex x l1 =>
    rw [e] at h
    exact fun cls dd H' Hf' R' s' r => h cls dd σ H' Hf' R' s' r
  | bad =>
    rw [e] at h
    exact h
theorem to_bindO {f : LSt → Res CO} {k : CO → LSt → Fl} {Q : VK} (R : REnv c Hf σ H l) (h : wpF c W D Hf ((f l).toFl k))
    (hk : ∀ co l1, wpF c W D Hf (k co l1) → PO' c σ Q Hf co l1) : tO c W f σ H Q := by
  refine ⟨Hf, l, R, ?_⟩
  cases e : f l with
  | ok d l1 =>
    rw [e] at h
    exact hk d l1 h
  | ex x l1 =>
    rw [e] at h
    exact fun cls dd H' Hf' R' s' r => h cls dd σ H' Hf' R' s' r
  | bad =>
    rw [e] at h
    exact h
end
def zSeq (a b : LSt → Fl) : LSt → Fl := fun l => (a l).seq b
def zSet (i : Nat) (e : LSt → Res D) : LSt → Fl := fun l => (e l).toFl fun d l => .nx (l.put i (.v d))
def zSetO (i : Nat) (e : LSt → Res CO) : LSt → Fl := fun l => (e l).toFl fun co l => .nx (l.put i (.own co))
def zDrop (e : LSt → Res D) : LSt → Fl := fun l => (e l).toFl fun _ l => .nx l
def zRet (e : LSt → Res D) : LSt → Fl := fun l => (e l).toFl fun d l => .rt (.v d) l
def zRetO (e : LSt → Res CO) : LSt → Fl := fun l => (e l).toFl fun co l => .rt (.o co) l
def zRetN : LSt → Fl := fun l => .rt (.v .non) l
def zIf (t : LSt → Res Bool) (a b : LSt → Fl) : LSt → Fl := fun l => (t l).toFl fun x l => if x = true then a l else b l
def zNext : LSt → Fl := fun l => .nx l
def zWhile (t : LSt → Res Bool) (b : LSt → Fl) : Nat → LSt → Fl
  | 0, _ => .bad
  | n + 1, l => (t l).toFl fun x l => if x = true then (match b l with
      | .nx l => zWhile t b n l
      | .ct l => zWhile t b n l
      | .bk l => .nx l
      | r => r) else .nx l
abbrev Tgt := D → LSt → Option LSt
def gSet (i : Nat) : Tgt := fun d l => some (l.put i (.v d))
def gsNil : List D → LSt → Option LSt
  | [], l => some l
  | _, _ => none
def gsCons (t : Tgt) (r : List D → LSt → Option LSt) : List D → LSt → Option LSt
  | d :: ds, l => (t d l).bind fun l => r ds l
  | [], _ => none
def gTupD (n : Nat) (r : List D → LSt → Option LSt) : Tgt := fun d l => match d with
  | .tup ds => if ds.length = n then r ds l else none
  | .lst ds => if ds.length = n then r ds l else none
  | _ => none
def optF (o : Option LSt) : Fl := match o with
  | some l => .nx l
  | none => .bad
def zAsg (e : LSt → Res D) (t : Tgt) : LSt → Fl := fun l => (e l).toFl fun d l => optF (t d l)
def zFor (t : Tgt) (b : LSt → Fl) : List D → LSt → Fl
  | [], l => .nx l
  | d :: ds, l => match t d l with
    | none => .bad
    | some l => match b l with
      | .nx l => zFor t b ds l
      | .ct l => zFor t b ds l
      | .bk l => .nx l
      | r => r

section
variable {X : Cx} {c : Ac} {W : WX} {s : Stmt} {ss : List Stmt} {pos : Pos} {e : Expr} {fe : LSt → Res D} {fa fb : LSt → Fl}
theorem dss_nil : DSs X c W [] zNext := ⟨pss_nil.imp' fun D σ H ⟨Hf, l, R, h⟩ => h σ H Hf R (Same.refl _)⟩
theorem dss_cons (h1 : DS X c W s fa) (h2 : DSs X c W ss fb) : DSs X c W (s :: ss) (zSeq fa fb) :=
  ⟨(pss_cons h1.ps h2.pss).imp' fun D σ H ⟨Hf, l, R, h⟩ => by
    refine ⟨Hf, l, R, ?_⟩
    unfold zSeq at h
    cases e : fa l with
    | nx l1 =>
      rw [e] at h
      exact fun σ' H' Hf' R' s' => ⟨Hf', l1, R', h.mo s'⟩
    | rt ev l1 =>
      rw [e] at h
      exact h
    | bk l1 =>
      rw [e] at h
      exact h
    | ct l1 =>
      rw [e] at h
      exact h
    | ex x l1 =>
      rw [e] at h
      exact h
    | bad =>
      rw [e] at h
      exact h⟩
theorem dss_one (h1 : DS X c W s fa) : DSs X c W [s] fa := ⟨pss_one h1.ps⟩
theorem ds_expr (he : DE X c W e fe) (hs : swapsWith e none pos.line X.env = pure false := by rfl) : DS X c W (.Expr e pos) (zDrop fe) :=
  ⟨(ps_expr he.pe hs).imp' fun D σ H ⟨Hf, l, R, h⟩ => to_bind R h fun d l1 v H1 Hf1 R1 s1 r1 h1 => h1 σ H1 Hf1 R1 (Same.refl _)⟩
theorem ds_ret (he : DE X c W e fe) : DS X c W (.Return (some e) pos) (zRet fe) :=
  ⟨(ps_ret he.pe).imp' fun D σ H ⟨Hf, l, R, h⟩ => to_bind R h fun d l1 v H1 Hf1 R1 s1 r1 h1 => h1 v σ H1 Hf1 R1 (Same.refl _) r1⟩
theorem ds_retO {fo : LSt → Res CO} (he : DO X c W e fo) : DS X c W (.Return (some e) pos) (zRetO fo) :=
  ⟨(ps_ret he.pe).imp' fun D σ H ⟨Hf, l, R, h⟩ => to_bindO R h fun co l1 h1 => fun a o H' Hf' R' s' ha r n n0 nd fr => h1 _ σ H' Hf' R' s' ⟨a, o, rfl, ha, r, n, n0, nd⟩⟩
theorem REnv.forget {Hf H : Hp} {σ : L2.St} {l : LSt} (R : REnv c Hf σ H l) (i : Nat) : REnv c Hf σ H (l.put i .un) where
  len := by
    show σ.length = (l.sl.set i .un).length
    rw [List.length_set]
    exact R.len
  slot := fun j s hj => by
    have hj' : (l.sl.set i .un)[j]? = some s := hj
    by_cases hji : j = i
    · subst hji
      have hl : j < l.sl.length := by
        have := (List.getElem?_eq_some_iff.mp hj').1
        rwa [List.length_set] at this
      rw [List.getElem?_set_self hl] at hj'
      cases hj'
      exact ⟨σ[j]'(by rw [R.len]; exact hl), List.getElem?_eq_getElem _, True.intro⟩
    · rw [List.getElem?_set_ne (Ne.symm hji)] at hj'
      exact R.slot j s hj'
  dis := fun j k s t b hj hk os ot ej ek => by
    have back : ∀ {m : Nat} {u : Slot}, (l.sl.set i .un)[m]? = some u → isOwn u = true → l.sl[m]? = some u := fun {m u} hm ou => by
      by_cases z : m = i
      · subst z
        have hl : m < l.sl.length := by
          have := (List.getElem?_eq_some_iff.mp hm).1
          rwa [List.length_set] at this
        rw [List.getElem?_set_self hl] at hm
        cases hm
        cases ou
      · rw [List.getElem?_set_ne (Ne.symm z)] at hm
        exact hm
    exact R.dis j k s t b (back hj os) (back hk ot) os ot ej ek
  sub := R.sub
  base := R.base
  frame := R.frame
  dice := R.dice
  hgs := R.hgs
theorem ds_if {t : Expr} {tt : LSt → Res Bool} {sa sb : List Stmt} (ht : DT X c W t tt) (ha : DSs X c W sa fa) (hb : DSs X c W sb fb) : DS X c W (.If t sa sb pos) (zIf tt fa fb) :=
  ⟨(ps_if ht.pt ha.pss hb.pss).imp' fun D σ H ⟨Hf, l, R, h⟩ => to_bindB R h fun d l1 H1 Hf1 R1 s1 h1 => by
    cases d with
    | true => exact ⟨Hf1, l1, R1, h1⟩
    | false => exact ⟨Hf1, l1, R1, h1⟩⟩
theorem ds_while {t : Expr} {tt : LSt → Res Bool} {sb : List Stmt} (n : Nat) (hp : PassesOwn (model X.prog X.w) X.A X.env X.xe) (ht : DT X c W t tt) (hb : DSs X c W sb fb) : DS X c W (.While t sb [] pos) (zWhile tt fb n) :=
  ⟨(ps_while hp ht.pt hb.pss).imp' fun D σ H ⟨Hf, l, R, h⟩ => by
    refine ⟨fun m σ H => ∃ Hf l, REnv c Hf σ H l ∧ wpF c W D Hf (zWhile tt fb m l), ⟨n, Hf, l, R, h⟩, fun m σ H ⟨Hf, l, R, h⟩ => ?_⟩
    cases m with
    | zero => exact h.elim
    | succ m =>
      refine to_bindB R h fun d l1 H1 Hf1 R1 s1 h1 => ?_
      cases d with
      | false => exact h1 σ H1 Hf1 R1 (Same.refl _)
      | true =>
        refine ⟨fun σ' H' => ∃ Hf l, REnv c Hf σ' H' l ∧ wpF c W D Hf (zWhile tt fb m l), fun σ' H' q => ⟨m, Nat.lt_succ_self m, q⟩, Hf1, l1, R1, ?_⟩
        have h2 : wpF c W D Hf1 (match fb l1 with
          | .nx l => zWhile tt fb m l
          | .ct l => zWhile tt fb m l
          | .bk l => .nx l
          | r => r) := h1
        cases e : fb l1 with
        | nx l2 =>
          rw [e] at h2
          exact fun σ' H' Hf' R' s' => ⟨Hf', l2, R', h2.mo s'⟩
        | ct l2 =>
          rw [e] at h2
          exact fun σ' H' Hf' R' s' => ⟨Hf', l2, R', h2.mo s'⟩
        | bk l2 =>
          rw [e] at h2
          exact h2
        | rt ev l2 =>
          rw [e] at h2
          exact h2
        | ex x l2 =>
          rw [e] at h2
          exact h2
        | bad =>
          rw [e] at h2
          exact h2⟩
end
def Off (ws : List Nat) (σ σ' : L2.St) : Prop := σ'.length = σ.length ∧ ∀ j, j ∉ ws → σ'[j]? = σ[j]?
theorem Off.refl (ws : List Nat) (σ : L2.St) : Off ws σ σ := ⟨rfl, fun _ _ => rfl⟩
theorem Off.trans {ws ws' : List Nat} {σ σ1 σ2 : L2.St} (a : Off ws σ σ1) (b : Off ws' σ1 σ2) : Off (ws ++ ws') σ σ2 :=
  ⟨b.1.trans a.1, fun j h => (b.2 j fun z => h (List.mem_append_right _ z)).trans (a.2 j fun z => h (List.mem_append_left _ z))⟩
structure DG (X : Cx) (c : Ac) (tg : Expr) (t : Tgt) (ws : List Nat) : Prop where
  ex : ∃ g : TG, PG X tg g ∧ ∀ (v : V) (σ : L2.St) (H : Hp) (Q : L2.St → Hp → Prop) (c' : Ac) (Hf : Hp) (l l' : LSt) (d : D), c'.toCn = c.toCn → REnv c' Hf σ H l → RVal c'.toCn c'.ad Hf d v → t d l = some l' → (∀ σ', REnv c' Hf σ' H l' → Off ws σ σ' → Q σ' H) → g v σ H Q
structure DGs (X : Cx) (c : Ac) (tgs : List Expr) (t : List D → LSt → Option LSt) (ws : List Nat) : Prop where
  ex : ∃ g : TGs, PGs X tgs g ∧ ∀ (vs : List V) (σ : L2.St) (H : Hp) (Q : L2.St → Hp → Prop) (c' : Ac) (Hf : Hp) (l l' : LSt) (ds : List D), c'.toCn = c.toCn → REnv c' Hf σ H l → RVals c'.toCn c'.ad Hf ds vs → t ds l = some l' → (∀ σ', REnv c' Hf σ' H l' → Off ws σ σ' → Q σ' H) → g vs σ H Q
section
variable {X : Cx} {c : Ac} {W : WX} {e tg : Expr} {es : List Expr} {pos : Pos} {t : Tgt} {ts : List D → LSt → Option LSt} {fe : LSt → Res D} {fb : LSt → Fl} {ws ws' : List Nat}
theorem dg_name {i : Nat} {x : Str} (p : PG X (.Name x pos) (gName i)) : DG X c (.Name x pos) (gSet i) [i] :=
  ⟨_, p, fun v σ H Q c' Hf l l' d hc R r e k => by
    cases e
    exact k _ (R.store r) ⟨List.length_set .., fun j hj => List.getElem?_set_ne (fun z => hj (by rw [z]; exact List.mem_singleton.mpr rfl))⟩⟩
theorem dgs_nil : DGs X c [] gsNil [] := ⟨_, pgs_nil, fun vs σ H Q c' Hf l l' ds hc R r e k => by
  cases ds with
  | nil =>
    cases e
    exact ⟨r, k _ R (Off.refl _ _)⟩
  | cons _ _ => cases e⟩
theorem dgs_cons (h1 : DG X c e t ws) (h2 : DGs X c es ts ws') (hs : (assignEach (e :: es) X.env).map (·.2) = assign e X.env :: (assignEach es X.env).map (·.2) := by rfl) : DGs X c (e :: es) (gsCons t ts) (ws ++ ws') := by
  obtain ⟨g, p, hg⟩ := h1.ex
  obtain ⟨gs, ps, hgs⟩ := h2.ex
  refine ⟨_, pgs_cons p ps hs, fun vs σ H Q c' Hf l l' ds hc R r e k => ?_⟩
  cases ds with
  | nil => cases e
  | cons d ds =>
    obtain ⟨v, vr, e1, r1, r2⟩ := r
    have e' : (t d l).bind (fun l => ts ds l) = some l' := e
    cases e2 : t d l with
    | none =>
      rw [e2] at e'
      cases e'
    | some l1 =>
      rw [e2] at e'
      exact ⟨v, vr, e1, hg v σ H _ c' Hf l l1 d hc R r1 e2 fun σ' R' o1 => hgs vr σ' H Q c' Hf l1 l' ds hc R' r2 e' fun σ2 R2 o2 => k σ2 R2 (o1.trans o2)⟩
theorem dg_tup {k n : Nat} (hc : X.calm = true) (hK : X.K = c.K) (h : DGs X c es ts ws) (hn : (assignEach es X.env).length = n := by rfl) (hst : (assignEach es X.env).findIdx? (·.1) = none := by rfl) : DG X c (.Tuple es k pos) (gTupD n ts) ws := by
  obtain ⟨gs, ps, hgs⟩ := h.ex
  refine ⟨_, pg_seq hc ps hn hst, fun v σ H Q c' Hf l l' d hc' R r e k => ?_⟩
  cases d with
  | tup ds =>
    obtain ⟨a, vs, rfl, h1, r1⟩ := r
    have e' : (if ds.length = n then ts ds l else none) = some l' := e
    split at e'
    · rename_i hl
      refine .inl ⟨a, vs, rfl, ?_, by rw [← r1.length]; exact hl, hgs vs σ H Q c' Hf l l' ds hc' R r1 e' k⟩
      rw [hK, ← hc']
      exact sameT R.sub h1
    · cases e'
  | lst ds =>
    obtain ⟨a, vs, rfl, h1, r1⟩ := r
    have e' : (if ds.length = n then ts ds l else none) = some l' := e
    split at e'
    · rename_i hl
      exact .inr ⟨a, vs, rfl, SqL.of (R.sub _ _ h1), by rw [← r1.length]; exact hl, hgs vs σ H Q c' Hf l l' ds hc' R r1 e' k⟩
    · cases e'
  | _ => cases e
theorem ds_asg (he : DE X c W e fe) (hg : DG X c tg t ws) (hs : swapsWithSole [tg] e pos.line X.env = pure false := by rfl) (hw : swappedStores [tg] e X.env = pure none := by rfl)
    (h1 : (assignEach [tg] X.env).map (·.2) = [assign tg X.env] := by rfl) : DS X c W (.Assign [tg] e pos) (zAsg fe t) := by
  obtain ⟨g, p, h⟩ := hg.ex
  exact ⟨(ps_asg he.pe p hs hw h1).imp' fun D σ H ⟨Hf, l, R, hh⟩ => to_bind R hh fun d l1 v H1 Hf1 R1 s1 r1 h1 => by
    cases e2 : t d l1 with
    | none =>
      rw [e2] at h1
      exact h1.elim
    | some l2 =>
      rw [e2] at h1
      exact h v σ H1 D.nx c Hf1 l1 l2 d rfl R1 r1 e2 fun σ' R' _ => h1 σ' H1 Hf1 R' (Same.refl _)⟩
theorem ds_set {i : Nat} {x : Str} {p : Pos} (hg : PG X (.Name x p) (gName i)) (he : DE X c W e fe) (hs : swapsWithSole [.Name x p] e pos.line X.env = pure false := by rfl) (hw : swappedStores [.Name x p] e X.env = pure none := by rfl) : DS X c W (.Assign [.Name x p] e pos) (zSet i fe) :=
  ⟨(ps_asg he.pe hg hs hw).imp' fun D σ H ⟨Hf, l, R, hh⟩ => to_bind R hh fun d l1 v H1 Hf1 R1 s1 r1 h1 => h1 _ H1 Hf1 (R1.store r1) (Same.refl _)⟩
theorem ds_setO {i : Nat} {x : Str} {p : Pos} {fo : LSt → Res CO} (hg : PG X (.Name x p) (gName i)) (he : DO X c W e fo) (hs : swapsWithSole [.Name x p] e pos.line X.env = pure false := by rfl) (hw : swappedStores [.Name x p] e X.env = pure none := by rfl) : DS X c W (.Assign [.Name x p] e pos) (zSetO i fo) :=
  ⟨(ps_asg he.pe hg hs hw).imp' fun D σ H ⟨Hf, l, R, hh⟩ => to_bindO R hh fun co l1 h1 => fun a o H' Hf' R' s' ha r n n0 nd fr => h1 _ H' Hf' (R'.storeO ha r n n0 nd fr) s'⟩
def zPar (i j : Nat) (fa : LSt → Res (List D)) : LSt → Fl := fun l => (fa l).toFl fun ds l => match ds with
  | [x, y] => .nx ((l.put i (.v x)).put j (.v y))
  | _ => .bad
theorem ds_par {i j : Nat} {x y : Str} {a b : Expr} {fa : LSt → Res (List D)} {px py pt : Pos} {kt k2 pt2} (hc : X.calm = true) (hN : X.N.Nodup) (hi : X.N[i]? = some x) (hj : X.N[j]? = some y) (hij : i ≠ j)
    (hx : X.env.scope.names.lookup x = some .local) (hy : X.env.scope.names.lookup y = some .local) (ha : DA X c W [a, b] fa)
    (hw : swappedStores [.Tuple [.Name x px, .Name y py] kt pt] (.Tuple [a, b] k2 pt2) X.env = pure (some [x, y]))
    (hs : swapsWithSole [.Tuple [.Name x px, .Name y py] kt pt] (.Tuple [a, b] k2 pt2) pos.line X.env = pure false := by rfl) :
    DS X c W (.Assign [.Tuple [.Name x px, .Name y py] kt pt] (.Tuple [a, b] k2 pt2) pos) (zPar i j fa) :=
  ⟨(ps_par hc hN hi hj hij hx hy ha.pa hw hs).imp' fun D σ H ⟨Hf, l, R, hh⟩ => to_bindA R hh fun ds l1 vs H1 Hf1 R1 s1 r1 h1 => by
    match ds, r1, h1 with
    | [d1, d2], ⟨v1, r, e, q1, v2, r', e', q2, e3⟩, h1 =>
      subst e e'
      cases (show _ = [] from e3)
      exact ⟨v1, v2, rfl, h1 _ H1 Hf1 ((R1.store q1).store q2) (Same.refl _)⟩
    | [], _, h1 => exact h1.elim
    | [_], _, h1 => exact h1.elim
    | _ :: _ :: _ :: _, _, h1 => exact h1.elim⟩
def zPar3 (i j k : Nat) (fa : LSt → Res (List D)) : LSt → Fl := fun l => (fa l).toFl fun ds l => match ds with
  | [x, y, z] => .nx (((l.put i (.v x)).put j (.v y)).put k (.v z))
  | _ => .bad
def zAug (i : Nat) (g : D → D → Option D) (fe : LSt → Res D) : LSt → Fl := fun l => match l.sl[i]? with
  | some (.v x) => (fe l).toFl fun y l => match g x y with
    | some d => .nx (l.put i (.v d))
    | none => .bad
  | _ => .bad
end

def Fl.fr : Fl → FR
  | .nx l => .ok (.v .non) l.g
  | .rt e l => .ok e l.g
  | .ex x l => .ex x l.g
  | _ => .bad
def mOf (n k : Nat) (fb : LSt → Fl) : Fm := fun ds g => if ds.length = k then (fb ⟨ds.map .v ++ List.replicate (n - k) .un, g⟩).fr else .bad
section
variable {P : Program} {w : World} {K : PySem.W.Frag} {mg : Str → Option Value} {base : Heap}
open Classical in
noncomputable def hidOf (cn : Cn) (H Hf : Hp) (g : G) (ad : Ad) : Hp := fun a => if Hf a = none ∧ ¬ isD cn g ad a then H a else none
theorem hidOf_some {cn : Cn} {H Hf : Hp} {g : G} {ad : Ad} {a : Addr} {o : HO} (h : hidOf cn H Hf g ad a = some o) : H a = some o ∧ Hf a = none ∧ ¬ isD cn g ad a := by
  unfold hidOf at h
  split at h
  · rename_i z
    exact ⟨h, z.1, z.2⟩
  · cases h
theorem hidOf_of {cn : Cn} {H Hf : Hp} {g : G} {ad : Ad} {a : Addr} {o : HO} (h : H a = some o) (n : Hf a = none) (d : ¬ isD cn g ad a) : hidOf cn H Hf g ad a = some o := by
  unfold hidOf
  rw [if_pos ⟨n, d⟩]
  exact h
theorem env_start {cn : Cn} {ad : Ad} {Hf H : Hp} {ds : List D} {vs : List V} {g : G} {N : List Str} (s : Same Hf H) (d : DiceOk cn Hf H ad g) (r : RVals cn ad Hf ds vs) :
    REnv { toCn := cn, hid := hidOf cn H Hf g ad, Hf0 := Hf, ad := ad, gs := g.sh } Hf (L2.start N vs) H ⟨ds.map .v ++ List.replicate (N.length - ds.length) .un, g⟩ where
  len := by
    unfold L2.start
    simp only [List.length_append, List.length_map, List.length_replicate]
    rw [r.length]
  slot := fun i x h => by
    have h' : (ds.map Slot.v ++ List.replicate (N.length - ds.length) Slot.un)[i]? = some x := h
    unfold L2.start
    by_cases hi : i < ds.length
    · rw [List.getElem?_append_left (by rw [List.length_map]; exact hi), List.getElem?_map, List.getElem?_eq_getElem hi] at h'
      cases h'
      obtain ⟨v, e1, e2⟩ := r.get (List.getElem?_eq_getElem hi)
      refine ⟨some v, ?_, v, rfl, e2⟩
      rw [List.getElem?_append_left (by rw [List.length_map, ← r.length]; exact hi), List.getElem?_map, e1]
      rfl
    · rw [List.getElem?_append_right (by rw [List.length_map]; omega), List.length_map, List.getElem?_replicate] at h'
      split at h'
      · rename_i hl
        cases h'
        refine ⟨none, ?_, True.intro⟩
        rw [List.getElem?_append_right (by rw [List.length_map, ← r.length]; omega), List.length_map, List.getElem?_replicate, ← r.length, if_pos hl]
      · cases h'
  dis := fun i j x y a h _ o _ _ _ => by
    have h' : (ds.map Slot.v ++ List.replicate (N.length - ds.length) Slot.un)[i]? = some x := h
    exfalso
    by_cases hi : i < ds.length
    · rw [List.getElem?_append_left (by rw [List.length_map]; exact hi), List.getElem?_map, List.getElem?_eq_getElem hi] at h'
      cases h'
      cases o
    · rw [List.getElem?_append_right (by rw [List.length_map]; omega), List.length_map, List.getElem?_replicate] at h'
      split at h'
      · cases h'
        cases o
      · cases h'
  sub := s
  base := Same.refl _
  frame := fun _ _ h => hidOf_some h
  dice := d
  hgs := rfl
end
end Dx

namespace Dx
open PySem PySem.Spec PyProof.Rows L2

def GoodIt (c : Ac) (J : It) (Hf1 : Hp) (ds : List D) : Prop := ∀ Hf σ H l, REnv c Hf σ H l → Same Hf1 Hf →
  (∀ (i : Nat) d, ds[i]? = some d → J.go i H ∧ ∀ x H', J.yld i H x H' → ∃ Hf', Same Hf Hf' ∧ RVal c.toCn c.ad Hf' d x ∧ (H' = H ∧ Hf' = Hf ∨ ∃ p o, H p = none ∧ H' = upd H p o ∧ Hf' = upd Hf p o)) ∧ J.stop ds.length H
def tI (c : Ac) (W : WX) (f : LSt → Res (List D)) : TI := fun σ H R => ∃ Hf l, REnv c Hf σ H l ∧ wpR (f l) (fun ds l' => ∀ J H' Hf', REnv c Hf' σ H' l' → Same Hf Hf' → GoodIt c J Hf' ds → R J H') (PX c W σ Hf)
structure DI (X : Cx) (c : Ac) (W : WX) (tg iter : Expr) (f : LSt → Res (List D)) : Prop where pi : PI X tg iter (tI c W f)
theorem _root_.L2.PI.imp' {X : Cx} {tg it : Expr} {t t' : TI} (p : PI X tg it t) (h : ∀ σ H R, t' σ H R → t σ H R) : PI X tg it t' := ⟨fun pins s σ H R I q => p.run pins s σ H R I (h σ H R q)⟩

theorem goodL {c : Ac} {Hf1 : Hp} {a : Addr} {vs : List V} {ds : List D} (h : Hf1 a = some (.lst vs)) (r : RVals c.toCn c.ad Hf1 ds vs) : GoodIt c (Itl c.K a) Hf1 ds := by
  intro Hf σ H l R s
  have hH : H a = some (.lst vs) := R.sub _ _ (s _ _ h)
  have hq : SqL c.K H a vs := SqL.of hH
  refine ⟨fun i d e => ?_, ⟨vs, hq, by rw [r.length]; exact Nat.le_refl _⟩⟩
  obtain ⟨v, ev, rv⟩ := r.get e
  refine ⟨⟨vs, v, hq, ev⟩, fun x H' y => ?_⟩
  obtain ⟨e1, y⟩ := y
  subst e1
  have e2 := y vs hq
  rw [ev] at e2
  cases e2
  exact ⟨Hf, Same.refl _, rv.mono s, .inl ⟨rfl, rfl⟩⟩
theorem goodT' {c : Ac} {Hf1 : Hp} {a : Addr} {vs : List V} {ds : List D} (h : SqT c.K Hf1 a vs) (r : RVals c.toCn c.ad Hf1 ds vs) : GoodIt c (Itt c.K a) Hf1 ds := by
  intro Hf σ H l R s
  have hq : SqT c.K H a vs := sqM R.sub (sqM s h)
  refine ⟨fun i d e => ?_, ⟨vs, hq, by rw [r.length]; exact Nat.le_refl _⟩⟩
  obtain ⟨v, ev, rv⟩ := r.get e
  refine ⟨⟨vs, v, hq, ev⟩, fun x H' y => ?_⟩
  obtain ⟨e1, y⟩ := y
  subst e1
  have e2 := y vs hq
  rw [ev] at e2
  cases e2
  exact ⟨Hf, Same.refl _, rv.mono s, .inl ⟨rfl, rfl⟩⟩
def rangeD (lo : Int) (n : Nat) : List D := (List.range n).map fun i => D.int (lo + (i : Nat))
theorem goodR {c : Ac} {Hf1 : Hp} {lo : Int} {n : Nat} : GoodIt c (Itr lo n) Hf1 (rangeD lo n) := by
  intro Hf σ H l R s
  refine ⟨fun i d e => ?_, ?_⟩
  · unfold rangeD at e
    rw [List.getElem?_map] at e
    by_cases hi : i < n
    · rw [List.getElem?_range hi] at e
      cases e
      refine ⟨hi, fun x H' y => ?_⟩
      obtain ⟨e1, e2⟩ := y
      subst e1 e2
      exact ⟨Hf, Same.refl _, rfl, .inl ⟨rfl, rfl⟩⟩
    · rw [List.getElem?_eq_none (by rw [List.length_range]; omega)] at e
      cases e
  · show n ≤ (rangeD lo n).length
    unfold rangeD
    rw [List.length_map, List.length_range]
    exact Nat.le_refl _
def sItems (a : LSt → Res D) : LSt → Res (List D) := fun l => (a l).bind fun d l => opt (seqD d) l
def rng1D : List D → Option (List D)
  | [.int j] => if j.natAbs < 2 ^ 61 then some (rangeD 0 j.toNat) else none
  | _ => none
def enumD (k : Nat) : List D → List D
  | [] => []
  | d :: ds => .tup [.int (k : Nat), d] :: enumD (k + 1) ds
def sWalk (g : List D → Option (List D)) (a : LSt → Res (List D)) : LSt → Res (List D) := fun l => (a l).bind fun ds l => opt (g ds) l
theorem enumD_get : ∀ (ds : List D) (k i : Nat) (d : D), (enumD k ds)[i]? = some d → ∃ x, ds[i]? = some x ∧ d = .tup [.int ((k + i : Nat) : Int), x]
  | [], _, _, _, h => by simp [enumD] at h
  | e :: ds, k, 0, d, h => by
    simp [enumD] at h
    exact ⟨e, rfl, by rw [← h]; rfl⟩
  | e :: ds, k, i + 1, d, h => by
    simp [enumD] at h
    obtain ⟨x, e1, e2⟩ := enumD_get ds (k + 1) i d h
    exact ⟨x, by simpa using e1, by rw [e2, show k + 1 + i = k + (i + 1) by omega]⟩
theorem enumD_length : ∀ (ds : List D) (k : Nat), (enumD k ds).length = ds.length
  | [], _ => rfl
  | e :: ds, k => by
    simp [enumD, enumD_length ds (k + 1)]
section
variable {X : Cx} {c : Ac} {W : WX} {tg e a b : Expr} {pos p : Pos} {fe : LSt → Res D} {fs : LSt → Res (List D)}
theorem di_list (hK : X.K = c.K) (he : DE X c W e fe) : DI X c W tg e (sItems fe) := by
  refine ⟨⟨fun pins s σ H R I h => ?_⟩⟩
  obtain ⟨Hf, l, RR, h⟩ := h
  have q := run_bind (Q := fun x H1 => (∃ a, x = .ref a ∧ (∃ xs, SqL X.K H1 a xs) ∧ R (Itl X.K a) H1) ∨ ∃ a, x = .ref a ∧ (∃ xs, SqT X.K H1 a xs) ∧ R (Itt X.K a) H1)
    (P := fun Hf ds l' => ∀ J H' Hf', REnv c Hf' σ H' l' → Same Hf Hf' → GoodIt c J Hf' ds → R J H') (fun Hf Hf1 s ds l h J H' Hf' R' s' g => h J H' Hf' R' (s.trans s') g) RR h fun d l1 v H1 Hf1 R1 s1 r1 h1 => by
      cases d with
      | tup ds =>
        obtain ⟨a, vs, rfl, ha, r⟩ := r1
        refine .inr ⟨a, rfl, ⟨vs, ?_⟩, ?_⟩
        · rw [hK]
          exact sameT R1.sub ha
        · rw [hK]
          exact h1 _ H1 Hf1 R1 (Same.refl _) (goodT' (tupS ha) r)
      | lst ds =>
        obtain ⟨a, vs, rfl, ha, r⟩ := r1
        refine .inl ⟨a, rfl, ⟨vs, SqL.of (R1.sub _ _ ha)⟩, ?_⟩
        rw [hK]
        exact h1 _ H1 Hf1 R1 (Same.refl _) (goodL ha r)
      | _ => exact h1.elim
  refine thn (he.pe.run pins s σ H _ I q) fun v s1 ⟨x, H1, I1, r1, q1⟩ => ?_
  rcases q1 with ⟨a, e, ⟨xs, hq⟩, q⟩ | ⟨a, e, ⟨xs, hq⟩, q⟩
  · subst e
    cases r1
    obtain ⟨its, rv, p, hz⟩ := I1.list hq
    refine wpAny_pyIter_list p.isList ?_
    refine ⟨s1.heap.objs.size, [s1.heap.objs.size], _, _, H1, rfl, I1.kept (t' := s1.toks) fun b o e => Heap.get?_push_of_some _ e, turn_list a _, ⟨_, Heap.get?_push_size _ rfl, rfl, rfl⟩, fun b hb => ?_, q⟩
    have e : b = s1.heap.objs.size := by simpa using hb
    subst e
    exact I1.fpOk (Nat.le_refl _) (I1.hok.fresh (Nat.le_refl _))
  · subst e
    cases r1
    obtain ⟨its, rv, p, hz⟩ := I1.tuple hq
    refine wpAny_pyIter_tuple (show s1.heap.IsTuple a its.toArray from p) ?_
    refine ⟨s1.heap.objs.size, [s1.heap.objs.size], _, _, H1, rfl, I1.kept (t' := s1.toks) fun b o e => Heap.get?_push_of_some _ e, turn_tuple a _, ⟨_, Heap.get?_push_size _ rfl, rfl, rfl⟩, fun b hb => ?_, q⟩
    have e : b = s1.heap.objs.size := by simpa using hb
    subst e
    exact I1.fpOk (Nat.le_refl _) (I1.hok.fresh (Nat.le_refl _))
theorem walk_mo {σ : L2.St} {R : It → Hp → Prop} : Mono (fun Hf (ds : List D) l' => ∀ J H' Hf', REnv c Hf' σ H' l' → Same Hf Hf' → GoodIt c J Hf' ds → R J H') := fun Hf Hf1 s ds l h J H' Hf' R' s' g => h J H' Hf' R' (s.trans s') g
theorem di_range1 (hg : Gl X "range") (hm : X.mg "range" = none) (ha : DA X c W [a] fs) (hs : starEach [a] X.env = [(false, eval a X.env)] := by rfl) : DI X c W tg (.Call (.Name "range" p) [a] [] pos) (sWalk rng1D fs) :=
  ⟨(pi_range1 hg hm ha.pa hs).imp' fun σ H R ⟨Hf, l, RR, h⟩ => run_bindA walk_mo RR h fun ds l1 vs H1 Hf1 R1 s1 r1 h1 => by
    match ds, r1, h1 with
    | [.int j], ⟨v, r, e, q1, e2⟩, h1 =>
      subst e
      cases (show _ = [] from e2)
      have h2 : wpR (opt (if j.natAbs < 2 ^ 61 then some (rangeD 0 j.toNat) else none) l1) _ _ := h1
      split at h2
      · rename_i hz
        exact ⟨j, by rw [q1], by omega, by omega, h2 _ H1 Hf1 R1 (Same.refl _) goodR⟩
      · exact h2.elim
    | [], _, h1 => exact h1.elim
    | .non :: _, _, h1 => exact h1.elim
    | .bl _ :: _, _, h1 => exact h1.elim
    | .str _ :: _, _, h1 => exact h1.elim
    | .tup _ :: _, _, h1 => exact h1.elim
    | .lst _ :: _, _, h1 => exact h1.elim
    | .dK _ _ :: _, _, h1 => exact h1.elim
    | .dT _ _ :: _, _, h1 => exact h1.elim
    | .ins _ _ :: _, _, h1 => exact h1.elim
    | .scr _ :: _, _, h1 => exact h1.elim
    | .ty _ :: _, _, h1 => exact h1.elim
    | .glo _ :: _, _, h1 => exact h1.elim
    | .dice :: _, _, h1 => exact h1.elim
    | .rng _ _ :: _, _, h1 => exact h1.elim
    | .gtp _ :: _, _, h1 => exact h1.elim

    | .int _ :: _ :: _, _, h1 => exact h1.elim⟩
theorem rvals2 {cn : Cn} {ad : Ad} {H : Hp} {d e : D} {vs : List V} (r : RVals cn ad H [d, e] vs) : ∃ x y, vs = [x, y] ∧ RVal cn ad H d x ∧ RVal cn ad H e y := by
  obtain ⟨x, r1, e1, q1, y, r2, e2, q2, e3⟩ := r
  subst e1 e2
  cases (show _ = [] from e3)
  exact ⟨x, y, rfl, q1, q2⟩
theorem rvals1 {cn : Cn} {ad : Ad} {H : Hp} {d : D} {vs : List V} (r : RVals cn ad H [d] vs) : ∃ x, vs = [x] ∧ RVal cn ad H d x := by
  obtain ⟨x, r1, e1, q1, e3⟩ := r
  subst e1
  cases (show _ = [] from e3)
  exact ⟨x, rfl, q1⟩
theorem goodE {c : Ac} {Hf1 : Hp} {a : Addr} {vs : List V} {ds : List D} (h : Hf1 a = some (.lst vs)) (r : RVals c.toCn c.ad Hf1 ds vs) : GoodIt c (Ite c.K a) Hf1 (enumD 0 ds) := by
  intro Hf σ H l R s
  have hq : SqL c.K H a vs := SqL.of (R.sub _ _ (s _ _ h))
  refine ⟨fun i d e => ?_, ⟨vs, hq, by rw [enumD_length, r.length]; exact Nat.le_refl _⟩⟩
  obtain ⟨x, ex, rfl⟩ := enumD_get ds 0 i d e
  obtain ⟨v, ev, rv⟩ := r.get ex
  refine ⟨⟨vs, v, hq, ev⟩, fun y H' hy => ?_⟩
  obtain ⟨T, z, rfl, n, rfl, q⟩ := hy
  have e2 := q vs hq
  rw [ev] at e2
  cases e2
  have nf := R.free n
  refine ⟨upd Hf T (.tup [.int (i : Nat), v]), same_upd nf, ?_, .inr ⟨T, _, n, rfl, rfl⟩⟩
  refine RVal.tupNew nf (.cons ?_ (.cons (rv.mono s) .nil))
  rw [Nat.zero_add]
  rfl
end
def zForI (f : LSt → Res (List D)) (t : Tgt) (b : LSt → Fl) : LSt → Fl := fun l => (f l).toFl fun ds l => zFor t b ds l
theorem drop_get {α : Type} {xs : List α} {i : Nat} {x : α} (h : xs[i]? = some x) : xs.drop i = x :: xs.drop (i + 1) := by
  obtain ⟨hl, e⟩ := List.getElem?_eq_some_iff.mp h
  rw [List.drop_eq_getElem_cons hl, e]
theorem REnv.yield {c : Ac} {Hf H H' Hf' : Hp} {σ : L2.St} {l : LSt} (R : REnv c Hf σ H l) (h : H' = H ∧ Hf' = Hf ∨ ∃ p o, H p = none ∧ H' = upd H p o ∧ Hf' = upd Hf p o) : REnv c Hf' σ H' l := by
  rcases h with ⟨rfl, rfl⟩ | ⟨p, o, n, rfl, rfl⟩
  · exact R
  · exact R.alloc n
section
variable {X : Cx} {c : Ac} {W : WX} {tg it : Expr} {pos : Pos} {f : LSt → Res (List D)} {t : Tgt} {fb : LSt → Fl} {body : List Stmt} {ws : List Nat}
theorem ds_for (hp : PassesOwn (model X.prog X.w) X.A X.env X.xe) (hc : X.calm = true) (hi : DI X c W tg it f) (hg : DG X c tg t ws) (hb : DSs X c W body fb) (hs : ∀ x, foldedSetIterable it X.env x = pure x := by intro _; rfl) : DS X c W (.For tg it body [] pos) (zForI f t fb) := by
  obtain ⟨g, pg, hgg⟩ := hg.ex
  refine ⟨(ps_for hp hc hi.pi pg hb.pss hs).imp' fun D σ H ⟨Hf, l, R, h⟩ => ?_⟩
  refine ⟨Hf, l, R, ?_⟩
  unfold zForI at h
  cases e : f l with
  | bad =>
    rw [e] at h
    exact h
  | ex x l1 =>
    rw [e] at h
    exact fun cls dd H' Hf' R' s' r => h cls dd σ H' Hf' R' s' r
  | ok ds l1 =>
    rw [e] at h
    intro J H1 Hf1 R1 s1 good
    have h1 : wpF c W D Hf1 (zFor t fb ds l1) := wpF.mo s1 h
    refine ⟨fun i m σ H => m = ds.length - i ∧ i ≤ ds.length ∧ ∃ Hf l, REnv c Hf σ H l ∧ Same Hf1 Hf ∧ wpF c W D Hf (zFor t fb (ds.drop i) l), ⟨ds.length, rfl, Nat.zero_le _, Hf1, l1, R1, Same.refl _, h1⟩, fun i m σ H ⟨em, hle, Hf, l, R, s, h⟩ => ?_⟩
    obtain ⟨ggo, gst⟩ := good Hf σ H l R s
    by_cases hlt : i < ds.length
    · obtain ⟨go, yl⟩ := ggo i ds[i] (List.getElem?_eq_getElem hlt)
      refine .inr ⟨go, fun σ' H' => ∃ Hf l, REnv c Hf σ' H' l ∧ Same Hf1 Hf ∧ wpF c W D Hf (zFor t fb (ds.drop (i + 1)) l), fun σ' H' q => ⟨ds.length - (i + 1), by omega, rfl, hlt, q⟩, fun x H' hy => ?_⟩
      obtain ⟨Hf', sf, rv, hyl⟩ := yl x H' hy
      have R' := R.yield hyl
      rw [drop_get (List.getElem?_eq_getElem hlt)] at h
      unfold zFor at h
      cases e2 : t ds[i] l with
      | none =>
        rw [e2] at h
        exact h.elim
      | some l2 =>
        rw [e2] at h
        have h2 : wpF c W D Hf (match fb l2 with
          | .nx l => zFor t fb (ds.drop (i + 1)) l
          | .ct l => zFor t fb (ds.drop (i + 1)) l
          | .bk l => .nx l
          | r => r) := h
        refine hgg x σ H' _ c Hf' l l2 ds[i] rfl R' rv e2 fun σ2 R2 _ => ⟨Hf', l2, R2, ?_⟩
        have h3 := wpF.mo sf h2
        cases e3 : fb l2 with
        | nx l3 =>
          rw [e3] at h3
          exact fun σ' H' Hf2 R' s' => ⟨Hf2, l3, R', s.trans (sf.trans s'), h3.mo s'⟩
        | ct l3 =>
          rw [e3] at h3
          exact fun σ' H' Hf2 R' s' => ⟨Hf2, l3, R', s.trans (sf.trans s'), h3.mo s'⟩
        | bk l3 =>
          rw [e3] at h3
          exact h3
        | rt ev l3 =>
          rw [e3] at h3
          exact h3
        | ex x l3 =>
          rw [e3] at h3
          exact h3
        | bad =>
          rw [e3] at h3
          exact h3
    · have ei : i = ds.length := by omega
      subst ei
      rw [List.drop_length] at h
      exact .inl ⟨gst, h σ H Hf R (Same.refl _)⟩
end
end Dx

namespace Dx
open PySem PySem.Spec PyProof.Rows L2

def LSt.wipeL (l : LSt) : List Nat → LSt
  | [] => l
  | v :: vs => (l.wipeL vs).put v .un
theorem wipeL_g (l : LSt) : ∀ vs, (l.wipeL vs).g = l.g
  | [] => rfl
  | v :: vs => wipeL_g l vs
theorem REnv.wipe {c : Ac} {Hf H : Hp} {σ : L2.St} {l : LSt} (R : REnv c Hf σ H l) : ∀ vs : List Nat, REnv c Hf (L2.wipe σ vs) H (l.wipeL vs)
  | [] => R
  | v :: vs => by
    have R1 := REnv.wipe R vs
    refine ⟨?_, fun j s hj => ?_, fun j k s t b hj hk os ot ej ek => ?_, R1.sub, R1.base, R1.frame, R1.dice, R1.hgs⟩
    · show ((L2.wipe σ vs).set v none).length = ((l.wipeL vs).sl.set v .un).length
      rw [List.length_set, List.length_set]
      exact R1.len
    · have hj' : ((l.wipeL vs).sl.set v .un)[j]? = some s := hj
      show ∃ x, ((L2.wipe σ vs).set v none)[j]? = some x ∧ _
      by_cases hjv : j = v
      · subst hjv
        have hl : j < (l.wipeL vs).sl.length := by
          have := (List.getElem?_eq_some_iff.mp hj').1
          rwa [List.length_set] at this
        rw [List.getElem?_set_self hl] at hj'
        cases hj'
        exact ⟨none, List.getElem?_set_self (by rw [R1.len]; exact hl), True.intro⟩
      · rw [List.getElem?_set_ne (Ne.symm hjv)] at hj'
        rw [List.getElem?_set_ne (Ne.symm hjv)]
        exact R1.slot j s hj'
    · have back : ∀ {m : Nat} {u : Slot}, ((l.wipeL vs).sl.set v .un)[m]? = some u → isOwn u = true → m ≠ v := fun {m u} hm ou z => by
        subst z
        have hl : m < (l.wipeL vs).sl.length := by
          have := (List.getElem?_eq_some_iff.mp hm).1
          rwa [List.length_set] at this
        rw [List.getElem?_set_self hl] at hm
        cases hm
        cases ou
      have n1 := back hj os
      have n2 := back hk ot
      have hj' : ((l.wipeL vs).sl.set v .un)[j]? = some s := hj
      have hk' : ((l.wipeL vs).sl.set v .un)[k]? = some t := hk
      have ej' : ((L2.wipe σ vs).set v none)[j]? = some (some (.ref b)) := ej
      have ek' : ((L2.wipe σ vs).set v none)[k]? = some (some (.ref b)) := ek
      rw [List.getElem?_set_ne (Ne.symm n1)] at hj' ej'
      rw [List.getElem?_set_ne (Ne.symm n2)] at hk' ek'
      exact R1.dis j k s t b hj' hk' os ot ej' ek'
theorem wipe_get (σ : L2.St) : ∀ (vs : List Nat) (j : Nat), j ∉ vs → (L2.wipe σ vs)[j]? = σ[j]?
  | [], _, _ => rfl
  | v :: vs, j, h => by
    show ((L2.wipe σ vs).set v none)[j]? = σ[j]?
    rw [List.getElem?_set_ne (fun z => h (by rw [z]; exact List.mem_cons_self))]
    exact wipe_get σ vs j fun z => h (List.mem_cons_of_mem _ z)
theorem wipe_at (σ : L2.St) : ∀ (vs : List Nat) (j : Nat), j ∈ vs → j < σ.length → (L2.wipe σ vs)[j]? = some none
  | v :: vs, j, h, hl => by
    show ((L2.wipe σ vs).set v none)[j]? = some none
    by_cases e : j = v
    · subst e
      exact List.getElem?_set_self (by rw [L2.wipe_length]; exact hl)
    · rw [List.getElem?_set_ne (Ne.symm e)]
      rcases List.mem_cons.mp h with z | z
      · exact absurd z e
      · exact wipe_at σ vs j z hl
theorem wipe_off {σ σ' : L2.St} {vs ws : List Nat} (h : Off ws σ σ') (sub : ∀ j ∈ ws, j ∈ vs) : L2.wipe σ' vs = L2.wipe σ vs := by
  apply List.ext_getElem?
  intro j
  by_cases hj : j ∈ vs
  · by_cases hl : j < σ.length
    · rw [wipe_at σ vs j hj hl, wipe_at σ' vs j hj (by rw [h.1]; exact hl)]
    · rw [List.getElem?_eq_none (by rw [L2.wipe_length, h.1]; omega), List.getElem?_eq_none (by rw [L2.wipe_length]; omega)]
  · rw [wipe_get σ vs j hj, wipe_get σ' vs j hj]
    exact h.2 j fun z => hj (sub j z)
theorem wipeL_at (l : LSt) : ∀ (vs : List Nat) (j : Nat) (s : Slot), j ∈ vs → (l.wipeL vs).sl[j]? = some s → s = .un
  | v :: vs, j, s, h, e => by
    have e' : ((l.wipeL vs).sl.set v .un)[j]? = some s := e
    by_cases q : j = v
    · subst q
      have hl : j < (l.wipeL vs).sl.length := by
        have := (List.getElem?_eq_some_iff.mp e').1
        rwa [List.length_set] at this
      rw [List.getElem?_set_self hl] at e'
      cases e'
      rfl
    · rw [List.getElem?_set_ne (Ne.symm q)] at e'
      rcases List.mem_cons.mp h with z | z
      · exact absurd z q
      · exact wipeL_at l vs j s z e'
theorem REnv.unwipe {c : Ac} {Hf H : Hp} {σ : L2.St} {l : LSt} {vs : List Nat} (R : REnv c Hf (L2.wipe σ vs) H l) (h : ∀ (j : Nat) (s : Slot), j ∈ vs → l.sl[j]? = some s → s = .un) : REnv c Hf σ H l where
  len := by
    have := R.len
    rw [L2.wipe_length] at this
    exact this
  slot := fun j s hj => by
    by_cases hv : j ∈ vs
    · have e := h j s hv hj
      subst e
      have hl : j < σ.length := by
        have h1 := (List.getElem?_eq_some_iff.mp hj).1
        have h2 := R.len
        rw [L2.wipe_length] at h2
        omega
      exact ⟨σ[j], List.getElem?_eq_getElem hl, True.intro⟩
    · obtain ⟨x, e, q⟩ := R.slot j s hj
      rw [wipe_get σ vs j hv] at e
      exact ⟨x, e, q⟩
  dis := fun j k s t b hj hk os ot ej ek => by
    have n : ∀ {m : Nat} {u : Slot}, l.sl[m]? = some u → isOwn u = true → m ∉ vs := fun {m u} hm ou z => by
      have e := h m u z hm
      subst e
      cases ou
    refine R.dis j k s t b hj hk os ot ?_ ?_
    · rw [wipe_get σ vs j (n hj os)]
      exact ej
    · rw [wipe_get σ vs k (n hk ot)]
      exact ek
  sub := R.sub
  base := R.base
  frame := R.frame
  dice := R.dice
  hgs := R.hgs
theorem REnv.poke {c : Ac} {Hf H : Hp} {σ : L2.St} {l : LSt} (R : REnv c Hf σ H l) {a : Addr} {o : HO} (n : Hf a = none) (n0 : c.hid a = none) (nd : ¬ isD c.toCn l.g c.ad a)
    (fr : ∀ (j : Nat) (s : Slot), l.sl[j]? = some s → isOwn s = true → σ[j]? ≠ some (some (.ref a))) (ho : ∀ xs, o ≠ .tup xs := by intro _ z; cases z) : REnv c Hf σ (upd H a o) l where
  len := R.len
  slot := fun j s hj => by
    obtain ⟨x, e, q⟩ := R.slot j s hj
    refine ⟨x, e, ?_⟩
    cases s with
    | un => exact True.intro
    | slf => exact q
    | fn => exact q
    | er _ _ => exact q
    | v d => exact q
    | own co' =>
      obtain ⟨a', o', qa, ha', r', n', n0', nd'⟩ := q
      have ne : a' ≠ a := fun z => fr j _ hj rfl (by rw [e, qa, z])
      exact ⟨a', o', qa, by rw [upd_ne ne]; exact ha', r', n', n0', nd'⟩
  dis := R.dis
  sub := fun b u hb => by
    rw [upd_ne (fun z => by rw [z, n] at hb; cases hb)]
    exact R.sub b u hb
  base := R.base
  frame := fun b u h1 => by
    obtain ⟨e1, e2, e3⟩ := R.frame b u h1
    exact ⟨by rw [upd_ne (fun z => by rw [z, n0] at h1; cases h1)]; exact e1, e2, e3⟩
  dice := R.dice.poke nd ho
  hgs := R.hgs
def Ac.more (c : Ac) (a : Addr) (o : HO) : Ac := { c with hid := upd c.hid a o }
theorem REnv.mind {c : Ac} {Hf H : Hp} {σ : L2.St} {l : LSt} (R : REnv c Hf σ H l) {a : Addr} {o : HO} (h : H a = some o) (n : Hf a = none) (nd : ¬ isD c.toCn l.g c.ad a)
    (fr : ∀ (j : Nat) (s : Slot), l.sl[j]? = some s → isOwn s = true → σ[j]? ≠ some (some (.ref a))) : REnv (c.more a o) Hf σ H l where
  len := R.len
  slot := fun j s hj => by
    obtain ⟨x, e, q⟩ := R.slot j s hj
    refine ⟨x, e, ?_⟩
    cases s with
    | un => exact True.intro
    | slf => exact q
    | fn => exact q
    | er _ _ => exact q
    | v d => exact q
    | own co' =>
      obtain ⟨a', o', qa, ha', r', n', n0', nd'⟩ := q
      have ne : a' ≠ a := fun z => fr j _ hj rfl (by rw [e, qa, z])
      exact ⟨a', o', qa, ha', r', n', by show upd c.hid a o a' = none; rw [upd_ne ne]; exact n0', nd'⟩
  dis := R.dis
  sub := R.sub
  base := R.base
  frame := fun b u h1 => by
    have h1' : upd c.hid a o b = some u := h1
    by_cases e : b = a
    · subst e
      rw [upd_same] at h1'
      cases h1'
      exact ⟨h, n, nd⟩
    · rw [upd_ne e] at h1'
      exact R.frame b u h1'
  dice := R.dice
  hgs := R.hgs
theorem REnv.unmind {c : Ac} {Hf H : Hp} {σ : L2.St} {l : LSt} {a : Addr} {o : HO} (n0 : c.hid a = none) (R : REnv (c.more a o) Hf σ H l) : REnv c Hf σ H l ∧ H a = some o ∧ Hf a = none ∧ ¬ isD c.toCn l.g c.ad a ∧ ∀ (j : Nat) (s : Slot), l.sl[j]? = some s → isOwn s = true → σ[j]? ≠ some (some (.ref a)) := by
  obtain ⟨h1, h2, h3⟩ := R.frame a o (show upd c.hid a o a = some o from upd_same)
  refine ⟨⟨R.len, fun j s hj => ?_, R.dis, R.sub, R.base, fun b u hb => ?_, R.dice, R.hgs⟩, h1, h2, h3, fun j s hj os e => ?_⟩
  · obtain ⟨x, e, q⟩ := R.slot j s hj
    refine ⟨x, e, ?_⟩
    cases s with
    | un => exact True.intro
    | slf => exact q
    | fn => exact q
    | er _ _ => exact q
    | v d => exact q
    | own co' =>
      obtain ⟨a', o', qa, ha', r', n', n0', nd'⟩ := q
      refine ⟨a', o', qa, ha', r', n', ?_, nd'⟩
      have z : upd c.hid a o a' = none := n0'
      by_cases e2 : a' = a
      · rw [e2, upd_same] at z
        cases z
      · rw [upd_ne e2] at z
        exact z
  · refine R.frame b u ?_
    show upd c.hid a o b = some u
    rw [upd_ne (fun z => by rw [z, n0] at hb; cases hb)]
    exact hb
  · cases s with
    | own co' =>
      obtain ⟨a', o', e1, ha', r', n', n0', nd'⟩ := R.own hj
      rw [e1] at e
      cases e
      have z : upd c.hid a o a = none := n0'
      rw [upd_same] at z
      cases z
    | _ => cases os

abbrev W0 : WX := fun _ _ _ _ => False
def compLoop (t : Tgt) (tt : LSt → Res Bool) (fe : LSt → Res D) (vs : List Nat) : List D → List D → LSt → Res CO
  | [], acc, l => .ok (.lst acc) l
  | d :: ds, acc, l => match t d l with
    | none => .bad
    | some l => match tt l with
      | .ok true l => (match fe l with
        | .ok y l => if acc.length < szL then compLoop t tt fe vs ds (acc ++ [y]) (l.wipeL vs) else .bad
        | _ => .bad)
      | .ok false l => compLoop t tt fe vs ds acc (l.wipeL vs)
      | _ => .bad
def sComp (f : LSt → Res (List D)) (t : Tgt) (tt : LSt → Res Bool) (fe : LSt → Res D) (vs : List Nat) : LSt → Res CO := fun l => (f l).bind fun ds l => compLoop t tt fe vs ds [] (l.wipeL vs)
def sYes : LSt → Res Bool := fun l => .ok true l
structure DTs (X : Cx) (c : Ac) (W : WX) (es : List Expr) (f : LSt → Res Bool) : Prop where pts : PTs X es (tB c W f)
section
variable {X : Cx} {c : Ac} {W : WX} {elt tg iter : Expr} {ifs : List Expr} {scope : Scope} {own : List (Str × Nat)} {pos : Pos} {f : LSt → Res (List D)} {t : Tgt} {tt : LSt → Res Bool} {fe : LSt → Res D} {ws : List Nat}
theorem dts_nil : DTs X c W [] sYes := ⟨⟨fun pins s σ H Q I ⟨Hf, l, R, h⟩ => pts_nil.run pins s σ H Q I (h H Hf R (Same.refl _))⟩⟩
theorem dts_one {e : Expr} (h : DT X c W e tt) : DTs X c W [e] tt := ⟨pts_one h.pt⟩
theorem lc_run {g : TG} {TT' : TT} {TE' : TE} (hws : ∀ j ∈ ws, j ∈ own.map (·.2))
    (hg : ∀ (v : V) (σ : L2.St) (H : Hp) (Q : L2.St → Hp → Prop) (c' : Ac) (Hf : Hp) (l l' : LSt) (d : D), c'.toCn = c.toCn → REnv c' Hf σ H l → RVal c'.toCn c'.ad Hf d v → t d l = some l' → (∀ σ', REnv c' Hf σ' H l' → Off ws σ σ' → Q σ' H) → g v σ H Q)
    (ht : ∀ (c' : Ac) σ H Q, c'.toCn = c.toCn → tB c' W0 tt σ H Q → TT' σ H Q) (he : ∀ (c' : Ac) σ H Q, c'.toCn = c.toCn → tD c' W0 fe σ H Q → TE' σ H Q)
    {σ : L2.St} {H : Hp} {Q : VK} (h : tO c W (sComp f t tt fe (own.map (·.2))) σ H Q) : tLc (tI c W f) g TT' TE' (own.map (·.2)) σ H Q := by
  obtain ⟨Hf, l, R, h⟩ := h
  refine ⟨Hf, l, R, ?_⟩
  unfold sComp at h
  cases e : f l with
  | bad =>
    rw [e] at h
    exact h
  | ex x l1 =>
    rw [e] at h
    exact h
  | ok ds l1 =>
    rw [e] at h
    intro J H1 Hf1 R1 s1 good D hD
    let vs := own.map (·.2)
    have h1 : wpR (compLoop t tt fe vs ds [] (l1.wipeL vs)) (PO' c σ Q Hf1) (PX c W σ Hf1) := wpR.mono PO'.mo s1 h
    have c0 : c.hid D = none := by
      cases e0 : c.hid D with
      | none => rfl
      | some u =>
        have := (R1.frame D u e0).1
        rw [hD] at this
        cases this
    have dn : ∀ {σ : L2.St} {l : LSt}, REnv c Hf1 σ H1 l → ¬ isD c.toCn l.g c.ad D := fun {σ l} R => R.dice.new hD
    have fr0 : ∀ (j : Nat) (s : Slot), (l1.wipeL vs).sl[j]? = some s → isOwn s = true → (L2.wipe σ vs)[j]? ≠ some (some (.ref D)) := fun j s hj ho e => by
      cases s with
      | own co' =>
        obtain ⟨a', o', e', ha', _⟩ := (R1.wipe vs).own hj
        rw [e'] at e
        cases e
        rw [hD] at ha'
        cases ha'
      | _ => cases ho
    -- the word: behind i items the new list holds us, data acc
    refine ⟨fun i m H' => m = ds.length - i ∧ i ≤ ds.length ∧ ∃ (Hf : Hp) (l : LSt) (acc : List Dx.D) (us : List V), REnv (c.more D (.lst us)) Hf (L2.wipe σ vs) H' l ∧ Same Hf1 Hf ∧ RVals c.toCn c.ad Hf acc us ∧
      (∀ (j : Nat) (s : Slot), j ∈ vs → l.sl[j]? = some s → s = .un) ∧ wpR (compLoop t tt fe vs (ds.drop i) acc l) (PO' c σ Q Hf) (PX c W σ Hf),
      ⟨ds.length, rfl, Nat.zero_le _, Hf1, l1.wipeL vs, [], [], ?_, Same.refl _, rfl, wipeL_at l1 vs, h1⟩, fun i m H' ⟨em, hle, Hf, l, acc, us, R, s, ra, un, h⟩ => ?_⟩
    · have R2 := (R1.wipe vs).hid (o := .lst []) hD
      exact R2.mind upd_same (R1.free hD) (fun z => dn (R1.wipe vs) z) fr0
    · obtain ⟨R0, hDD, nf, nd, fr⟩ := R.unmind c0
      obtain ⟨ggo, gst⟩ := good Hf _ H' l R0 s
      by_cases hlt : i < ds.length
      · obtain ⟨go, yl⟩ := ggo i ds[i] (List.getElem?_eq_getElem hlt)
        refine .inr ⟨go, fun H' => ∃ (Hf : Hp) (l : LSt) (acc : List Dx.D) (us : List V), REnv (c.more D (.lst us)) Hf (L2.wipe σ vs) H' l ∧ Same Hf1 Hf ∧ RVals c.toCn c.ad Hf acc us ∧
          (∀ (j : Nat) (s : Slot), j ∈ vs → l.sl[j]? = some s → s = .un) ∧ wpR (compLoop t tt fe vs (ds.drop (i + 1)) acc l) (PO' c σ Q Hf) (PX c W σ Hf), fun H' q => ⟨ds.length - (i + 1), by omega, rfl, hlt, q⟩, fun x H2 hy => ?_⟩
        obtain ⟨Hf2, sf, rv, hyl⟩ := yl x H2 hy
        have R' := R.yield hyl
        rw [drop_get (List.getElem?_eq_getElem hlt)] at h
        unfold compLoop at h
        cases e2 : t ds[i] l with
        | none =>
          rw [e2] at h
          exact h.elim
        | some l2 =>
          rw [e2] at h
          refine hg x _ H2 _ (c.more D (.lst us)) Hf2 l l2 ds[i] rfl R' rv e2 fun σ2 R2 off => ⟨wipe_off off hws |>.trans ?_, ?_⟩
          · apply List.ext_getElem?
            intro j
            by_cases hj : j ∈ vs
            · by_cases hl : j < σ.length
              · rw [wipe_at _ vs j hj (by rw [L2.wipe_length]; exact hl), wipe_at σ vs j hj hl]
              · rw [List.getElem?_eq_none (by rw [L2.wipe_length, L2.wipe_length]; omega), List.getElem?_eq_none (by rw [L2.wipe_length]; omega)]
            · rw [wipe_get _ vs j hj]
          · have wσ : L2.wipe σ2 vs = L2.wipe σ vs := (wipe_off off hws).trans (by
              apply List.ext_getElem?
              intro j
              by_cases hj : j ∈ vs
              · by_cases hl : j < σ.length
                · rw [wipe_at _ vs j hj (by rw [L2.wipe_length]; exact hl), wipe_at σ vs j hj hl]
                · rw [List.getElem?_eq_none (by rw [L2.wipe_length, L2.wipe_length]; omega), List.getElem?_eq_none (by rw [L2.wipe_length]; omega)]
              · rw [wipe_get _ vs j hj])
            refine ht (c.more D (.lst us)) σ2 H2 _ rfl ⟨Hf2, l2, R2, ?_⟩
            have h2 : wpR (match tt l2 with
              | .ok true l => (match fe l with
                | .ok y l => if acc.length < szL then compLoop t tt fe vs (ds.drop (i + 1)) (acc ++ [y]) (l.wipeL vs) else .bad
                | _ => .bad)
              | .ok false l => compLoop t tt fe vs (ds.drop (i + 1)) acc (l.wipeL vs)
              | _ => .bad) (PO' c σ Q Hf) (PX c W σ Hf) := h
            cases e3 : tt l2 with
            | bad =>
              rw [e3] at h2
              exact h2.elim
            | ex x l3 =>
              rw [e3] at h2
              exact h2.elim
            | ok b l3 =>
              rw [e3] at h2
              intro H3 Hf3 R3 s3
              cases b with
              | false =>
                refine ⟨Hf3, l3.wipeL vs, acc, us, ?_, s.trans (sf.trans s3), ra.mono (sf.trans s3), wipeL_at l3 vs, wpR.mono PO'.mo (sf.trans s3) h2⟩
                rw [← wσ]
                exact R3.wipe vs
              | true =>
                refine he (c.more D (.lst us)) σ2 H3 _ rfl ⟨Hf3, l3, R3, ?_⟩
                have h2 : wpR (match fe l3 with
                  | .ok y l => if acc.length < szL then compLoop t tt fe vs (ds.drop (i + 1)) (acc ++ [y]) (l.wipeL vs) else .bad
                  | _ => .bad) (PO' c σ Q Hf) (PX c W σ Hf) := h2
                cases e4 : fe l3 with
                | bad =>
                  rw [e4] at h2
                  exact h2.elim
                | ex x l4 =>
                  rw [e4] at h2
                  exact h2.elim
                | ok y l4 =>
                  rw [e4] at h2
                  intro v H4 Hf4 R4 s4 rv4
                  have h5 : wpR (if acc.length < szL then compLoop t tt fe vs (ds.drop (i + 1)) (acc ++ [y]) (l4.wipeL vs) else .bad) (PO' c σ Q Hf) (PX c W σ Hf) := h2
                  split at h5
                  · rename_i hz
                    have sall := sf.trans (s3.trans s4)
                    have ra4 := ra.mono sall
                    have R5 := R4.wipe vs
                    rw [wσ] at R5
                    obtain ⟨R6, hD6, nf6, nd6, fr6⟩ := R5.unmind c0
                    refine ⟨us, hD6, by rw [← szL_eq, ← ra4.length]; exact hz, Hf4, l4.wipeL vs, acc ++ [y], us ++ [v], ?_, s.trans sall, ra4.append (.cons rv4 .nil), wipeL_at l4 vs, wpR.mono PO'.mo sall h5⟩
                    exact (R6.poke nf6 c0 nd6 fr6).mind upd_same nf6 nd6 fr6
                  · exact h5.elim
      · have ei : i = ds.length := by omega
        subst ei
        rw [List.drop_length] at h
        have Rσ : REnv c Hf σ H' l := R0.unwipe un
        refine .inl ⟨gst, h D (.lst us) H' Hf Rσ (Same.refl _) hDD ⟨us, rfl, ra⟩ nf c0 nd fun j s hj os e => ?_⟩
        have hv : j ∉ vs := fun z => by
          have := un j s z hj
          subst this
          cases os
        exact fr j s hj os (by rw [wipe_get σ vs j hv]; exact e)
def gD (c : Ac) (t : Tgt) (ws : List Nat) : TG := fun v σ H Q => ∃ (c' : Ac) (Hf : Hp) (l l' : LSt) (d : D), c'.toCn = c.toCn ∧ REnv c' Hf σ H l ∧ RVal c'.toCn c'.ad Hf d v ∧ t d l = some l' ∧ ∀ σ', REnv c' Hf σ' H l' → Off ws σ σ' → Q σ' H
theorem DG.can (h : DG X c tg t ws) : PG X tg (gD c t ws) := by
  obtain ⟨g, p, hg⟩ := h.ex
  exact ⟨fun pins s σ H v u Q I r ⟨c', Hf, l, l', d, h1, h2, h3, h4, h5⟩ => p.run pins s σ H v u Q I r (hg v σ H Q c' Hf l l' d h1 h2 h3 h4 h5)⟩
theorem do_lc (hc : X.calm = true) (hN : X.N.Nodup) (hi : DI X c W tg iter f) (ok : BlkOk X.N X.env.scope scope own) (hws : ∀ j ∈ ws, j ∈ own.map (·.2))
    (hg : ∀ (s : Shared) (H : Hp) (C : Addr) (cl : List (Str × Addr)) (fp : List Addr), DG (X.blk s H scope (compEnvC scope cl C X.env) fp) c tg t ws)
    (ht : ∀ (s : Shared) (H : Hp) (C : Addr) (cl : List (Str × Addr)) (fp : List Addr) (c' : Ac), c'.toCn = c.toCn → DTs (X.blk s H scope (compEnvC scope cl C X.env) fp) c' W0 ifs tt)
    (he : ∀ (s : Shared) (H : Hp) (C : Addr) (cl : List (Str × Addr)) (fp : List Addr) (c' : Ac), c'.toCn = c.toCn → DE (X.blk s H scope (compEnvC scope cl C X.env) fp) c' W0 elt fe) (hs : ∀ x, foldedSetIterable iter X.env x = pure x := by intro _; rfl) :
    DO X c W (.ListComp elt [⟨tg, iter, ifs, 0⟩] scope pos) (sComp f t tt fe (own.map (·.2))) := by
  exact ⟨(pe_lc (g := gD c t ws) (tt := fun σ H Q => ∃ c' : Ac, c'.toCn = c.toCn ∧ tB c' W0 tt σ H Q) (te := fun σ H Q => ∃ c' : Ac, c'.toCn = c.toCn ∧ tD c' W0 fe σ H Q) hc hN hi.pi ok (fun s H C cl fp => (hg s H C cl fp).can)
    (fun s H C cl fp => ⟨fun pins s1 σ H1 Q I ⟨c', h1, h2⟩ => (ht s H C cl fp c' h1).pts.run pins s1 σ H1 Q I h2⟩)
    (fun s H C cl fp => ⟨fun pins s1 σ H1 Q I ⟨c', h1, h2⟩ => (he s H C cl fp c' h1).pe.run pins s1 σ H1 Q I h2⟩) hs).imp' fun σ H Q h =>
      lc_run hws (fun v σ H Q c' Hf l l' d h1 h2 h3 h4 h5 => ⟨c', Hf, l, l', d, h1, h2, h3, h4, h5⟩) (fun c' σ H Q e h => ⟨c', e, h⟩) (fun c' σ H Q e h => ⟨c', e, h⟩) h⟩
end
end Dx

namespace Dx
open PySem PySem.Spec PyProof.Rows L2

def AttrOk (cn : Cn) (f : Str) (tb : Nat → Option Nat) : Prop := ∀ n i, tb n = some i → SlX.SCls cn.K (cn.cA n) ∧ ∃ p, SlX.Slot1 cn.K (cn.cA n) f p i
def fldD (tb : Nat → Option Nat) : D → Option D
  | .ins n fs => (tb n).bind fun i => fs[i]?
  | _ => none
def sAttr (tb : Nat → Option Nat) (a : LSt → Res D) : LSt → Res D := fun l => (a l).bind fun d l => opt (fldD tb d) l
section
variable {X : Cx} {c : Ac} {W : WX} {e : Expr} {pos : Pos} {fe : LSt → Res D} {f : Str} {tb : Nat → Option Nat}
theorem de_attr (hK : X.K = c.K) (ok : AttrOk c.toCn f tb) (he : DE X c W e fe) (hb : attributeBase e f X.env (eval e X.env) = eval e X.env := by rfl) : DE X c W (.Attribute e f pos) (sAttr tb fe) :=
  ⟨(SlX.pe_sl he.pe hb).imp' fun σ H Q ⟨Hf, l, R, h⟩ => run_bind PD.mo R h fun d l1 v H1 Hf1 R1 s1 r1 h1 => by
    cases d with
    | ins n fs =>
      have h1 : wpR (opt ((tb n).bind fun i => fs[i]?) l1) (PD c σ Q Hf1) (PX c W σ Hf1) := h1
      cases e1 : tb n with
      | none =>
        rw [e1] at h1
        exact h1.elim
      | some i =>
        rw [e1] at h1
        have h1 : wpR (opt (fs[i]?) l1) (PD c σ Q Hf1) (PX c W σ Hf1) := h1
        cases e2 : fs[i]? with
        | none =>
          rw [e2] at h1
          exact h1.elim
        | some d2 =>
          rw [e2] at h1
          obtain ⟨a, dx, vs, rfl, ha, hd, rv⟩ := r1
          obtain ⟨u, eu, ru⟩ := rv.get e2
          obtain ⟨sc, p, sl⟩ := ok n i e1
          refine ⟨a, c.cA n, dx, p, vs.map some, i, u, rfl, .inr ⟨R1.sub _ _ ha, R1.sub _ _ hd⟩, ?_, ?_, ?_, PD.flat R1 h1 ru⟩
          · rw [hK]
            exact sc
          · rw [hK]
            exact sl
          · rw [List.getElem?_map, eu]
            rfl
    | _ => exact h1.elim⟩
end

def spI (cn : Cn) (n : Nat) (m : Fm) : Sp := fun vs H Q E => ∃ (Hf : Hp) (ad : Ad) (ds : List D) (g : G) (vs' : List V), vs = .ref ad.oa :: vs' ∧ g.ob = some (n, []) ∧ Same Hf H ∧ DiceOk cn Hf H ad g ∧ RVals cn ad Hf ds vs' ∧
  match m ds g with
  | .ok e g' => ∀ v H' Hf', Aft cn ad g g' H Hf H' Hf' → REV cn ad H Hf' H' g' e v → Q v H'
  | .ex x g' => ∀ cls dd H' Hf', Aft cn ad g g' H Hf H' Hf' → RX cn ad Hf' x cls dd → E cls dd H'
  | .bad => False
def allS : List (Option D) → Option (List D)
  | [] => some []
  | some d :: r => (allS r).map (d :: ·)
  | none :: _ => none
def mkC (n : Nat) (mi : Fm) : Fm := fun ds g => match mi ds { g with ob := some (n, []) } with
  | .ok (.v .non) g' => (match g'.ob with
    | some (n', f :: fs) => if n' = n then (match allS (f :: fs) with
      | some fs' => .ok (.v (.ins n fs')) { g' with ob := g.ob }
      | none => .bad) else .bad
    | _ => .bad)
  | .ok _ _ => .bad
  | .ex x g' => .ex x { g' with ob := g.ob }
  | .bad => .bad
mutual
theorem RVal.re {cn : Cn} {ad ad' : Ad} (h : ad'.d = ad.d) {H : Hp} : ∀ (d : D) (v : V), RVal cn ad H d v → RVal cn ad' H d v
  | .non, _, q => q
  | .bl _, _, q => q
  | .int _, _, q => q
  | .str _, _, q => q
  | .tup ds, _, ⟨a, vs, q, h1, r⟩ => ⟨a, vs, q, h1, RVals.re h ds vs r⟩
  | .lst ds, _, ⟨a, vs, q, h1, r⟩ => ⟨a, vs, q, h1, RVals.re h ds vs r⟩
  | .scr _, _, q => q
  | .dK ks ds, _, ⟨a, od, vs, q, h1, l, r⟩ => ⟨a, od, vs, q, h1, l, RVals.re h ds vs r⟩
  | .dT ks ds, _, ⟨a, od, vs, q, h1, l, r⟩ => ⟨a, od, vs, q, h1, l, RVals.re h ds vs r⟩
  | .ins n fs, _, ⟨a, dx, vs, q, h1, h2, r⟩ => ⟨a, dx, vs, q, h1, h2, RVals.re h fs vs r⟩
  | .ty _, _, q => q
  | .glo _, _, q => q
  | .dice, _, q => by
    show _ = V.ref ad'.d
    rw [h]
    exact q
  | .rng _ _, _, q => q
  | .gtp _, _, q => q
theorem RVals.re {cn : Cn} {ad ad' : Ad} (h : ad'.d = ad.d) {H : Hp} : ∀ (ds : List D) (vs : List V), RVals cn ad H ds vs → RVals cn ad' H ds vs
  | [], _, q => q
  | d :: ds, _, ⟨v, r, q, h1, t⟩ => ⟨v, r, q, RVal.re h d v h1, RVals.re h ds r t⟩
end
theorem allS_get : ∀ {fs : List (Option D)} {gs : List D}, allS fs = some gs → fs = gs.map some
  | [], gs, h => by
    cases h
    rfl
  | some d :: r, gs, h => by
    have h' : (allS r).map (d :: ·) = some gs := h
    rw [Option.map_eq_some_iff] at h'
    obtain ⟨g, e1, e2⟩ := h'
    subst e2
    rw [allS_get e1]
    rfl
  | none :: _, _, h => by cases h
end Dx

namespace Dx
open PySem PySem.Spec PyProof.Rows L2

section
variable {cn : Cn} {ad : Ad}
theorem upd2_some {H : Hp} {x dx a : Addr} {o u w : HO} (h : H a = some o) (n1 : H x = none) (n2 : H dx = none) : upd (upd H dx u) x w a = some o := by
  rw [upd_ne (ne_of_none h n1), upd_ne (ne_of_none h n2)]
  exact h
theorem make_run {n : Nat} {mi : Fm} {Hf H : Hp} {g : G} {ds : List D} {vs : List V} {Q : VK} {E : XK} {x dx : Addr} (sm : Same Hf H) (dc : DiceOk cn Hf H ad g) (r : RVals cn ad Hf ds vs) (nx : H x = none) (ndx : H dx = none) (ne : dx ≠ x)
    (h : match mkC n mi ds g with
      | .ok e g' => ∀ v H' Hf', Aft cn ad g g' H Hf H' Hf' → RVal cn ad Hf' e.d v → Q v H'
      | .ex y g' => ∀ cls dd H' Hf', Aft cn ad g g' H Hf H' Hf' → RX cn ad Hf' y cls dd → E cls dd H'
      | .bad => False) :
    spI cn n mi (.ref x :: vs) (upd (upd H dx (.own x)) x (.ins (cn.cA n) dx [])) (fun v H2 => v = .non ∧ Q (.ref x) H2) E := by
  have nfx : Hf x = none := sm.free nx
  have nfd : Hf dx = none := sm.free ndx
  have up : ∀ a o, H a = some o → upd (upd H dx (.own x)) x (.ins (cn.cA n) dx []) a = some o := fun a o e => upd2_some e nx ndx
  have dc0 : DiceOk cn Hf (upd (upd H dx (.own x)) x (.ins (cn.cA n) dx [])) { ad with oa := x, od := dx } { g with ob := some (n, []) } := by
    refine ⟨fun a b c q => ?_, fun k fs q => ?_, dc.tb.keep (Same.refl _) (fun a hT => by
      obtain ⟨ps, e⟩ := dc.tb.at_ hT
      rw [e]
      exact up _ _ e) fun _ _ => rfl, dc.tp.up.up⟩
    · obtain ⟨h1, h2⟩ := dc.dc a b c q
      exact ⟨h1, up _ _ h2⟩
    · cases q
      refine ⟨nfx, nfd, ne, .inl (by show upd (upd H dx _) x _ dx = _; rw [upd_ne ne, upd_same]), [], .inl ⟨upd_same, rfl⟩, rfl, fun i d e => by simp at e⟩
  refine ⟨Hf, { ad with oa := x, od := dx }, ds, { g with ob := some (n, []) }, vs, rfl, rfl, fun a o e => up a o (sm a o e), dc0, RVals.re (ad := ad) (ad' := { ad with oa := x, od := dx }) rfl _ _ r, ?_⟩
  -- what lies apart stays
  have fra : ∀ {g2 : G} {H' Hf' : Hp}, Aft cn { ad with oa := x, od := dx } { g with ob := some (n, []) } g2 (upd (upd H dx (.own x)) x (.ins (cn.cA n) dx [])) Hf H' Hf' →
      ∀ a o, H a = some o → Hf a = none → ¬ (g.sh.1 = true ∧ a = ad.d) → ¬ isT cn a → H' a = some o ∧ Hf' a = none ∧ a ≠ x ∧ a ≠ dx := fun {g2 H' Hf'} A a o h1 h2 h3 h3' => by
    have n1 : a ≠ x := ne_of_none h1 nx
    have n2 : a ≠ dx := ne_of_none h1 ndx
    obtain ⟨e1, e2⟩ := A.frame a o (up a o h1) h2 (by
      rintro (z | ⟨_, z⟩ | z)
      · exact h3 z
      · rcases z with z | z
        · exact n1 z
        · exact n2 z
      · exact h3' z)
    exact ⟨e1, e2, n1, n2⟩
  -- the outer object, if there is one
  have obj : ∀ {g2 : G} {H' Hf' Hf2 : Hp}, Aft cn { ad with oa := x, od := dx } { g with ob := some (n, []) } g2 (upd (upd H dx (.own x)) x (.ins (cn.cA n) dx [])) Hf H' Hf' → Same Hf' Hf2 → (∀ b, b ≠ x → b ≠ dx → Hf2 b = Hf' b) →
      ObOk cn Hf2 H' ad g := fun {g2 H' Hf' Hf2} A s2 h2 k fs q => by
    obtain ⟨q1, q2, q3, q4, us, q5, q6⟩ := dc.obj k fs q
    have hd : g.d.isSome = true → ad.oa ≠ ad.d ∧ ad.od ≠ ad.d := fun hs => by
      cases e : g.d with
      | none =>
        rw [e] at hs
        cases hs
      | some t =>
        obtain ⟨a, b, c⟩ := t
        have hl := (dc.dc a b c e).2
        constructor
        · intro z
          rcases q5 with ⟨w, _⟩ | ⟨w, _⟩
          · rw [z, hl] at w
            cases w
          · rw [z, hl] at w
            unfold SlX.SlO at w
            cases w
        · intro z
          rcases q4 with w | w
          · rw [z, hl] at w
            cases w
          · rw [z, hl] at w
            cases w
    obtain ⟨u, hu⟩ := slt_there q5
    obtain ⟨e1, e2, e3, e4⟩ := fra A ad.oa u hu q1 (fun z => (hd z.1).1 z.2) fun z => by
      obtain ⟨ps, e⟩ := dc.tb.at_ z
      rcases q5 with ⟨w, _⟩ | ⟨w, _⟩
      · rw [e] at w
        cases w
      · rw [e] at w
        unfold SlX.SlO at w
        cases w
    have hod : ∃ w, H ad.od = some w := q4.elim (fun w => ⟨_, w⟩) fun w => ⟨_, w⟩
    obtain ⟨w, hw⟩ := hod
    obtain ⟨f1, f2, f3, f4⟩ := fra A ad.od w hw q2 (fun z => (hd z.1).2 z.2) fun z => by
      obtain ⟨ps, e⟩ := dc.tb.at_ z
      rcases q4 with w | w
      · rw [e] at w
        cases w
      · rw [e] at w
        cases w
    refine ⟨by rw [h2 _ e3 e4]; exact e2, by rw [h2 _ f3 f4]; exact f2, q3, ?_, us, ?_, q6.mono (A.grow.trans s2)⟩
    · rw [f1, ← hw]
      exact q4
    · rcases q5 with ⟨z, e⟩ | ⟨z, e⟩
      · refine .inl ⟨?_, e⟩
        rw [e1, ← hu]
        exact z
      · refine .inr ⟨?_, ?_⟩
        · rw [e1, ← hu]
          exact z
        · rw [f1, ← hw]
          exact e
  have aft : ∀ {g2 : G} {H' Hf' Hf2 : Hp}, Aft cn { ad with oa := x, od := dx } { g with ob := some (n, []) } g2 (upd (upd H dx (.own x)) x (.ins (cn.cA n) dx [])) Hf H' Hf' → Same Hf' Hf2 → Same Hf2 H' → (∀ b, b ≠ x → b ≠ dx → Hf2 b = Hf' b) →
      Aft cn ad g { g2 with ob := g.ob } H Hf H' Hf2 := fun {g2 H' Hf' Hf2} A s2 s3 h2 => by
    refine ⟨A.grow.trans s2, s3, fun a o h1 h3 h4 => ?_, ⟨fun a b c q => ?_, obj A s2 h2, A.dice.tb.keep s2 (fun _ _ => rfl) (fun b hT => ?_), A.dice.tp.grow s2⟩, ?_⟩
    · obtain ⟨e1, e2, e3, e4⟩ := fra A a o h1 h3 (fun z => h4 (.inl z)) fun z => h4 (.inr (.inr z))
      exact ⟨e1, by rw [h2 _ e3 e4]; exact e2⟩
    · obtain ⟨h3, h4⟩ := A.dice.dc a b c q
      have e1 : ad.d ≠ x ∧ ad.d ≠ dx := by
        have hs : g.d.isSome = true := by
          have := congrArg Prod.fst A.hgs
          have q' : g2.d = some (a, b, c) := q
          have t1 : g2.d.isSome = g.d.isSome := this
          rw [← t1, q']
          rfl
        cases e : g.d with
        | none =>
          rw [e] at hs
          cases hs
        | some t =>
          obtain ⟨a', b', c'⟩ := t
          have hl := (dc.dc a' b' c' e).2
          exact ⟨ne_of_none hl nx, ne_of_none hl ndx⟩
      exact ⟨by rw [h2 _ e1.1 e1.2]; exact h3, h4⟩
    · obtain ⟨ps, e⟩ := dc.tb.at_ hT
      exact h2 _ (ne_of_none e nx) (ne_of_none e ndx)
    · have t1 : g2.d.isSome = g.d.isSome := congrArg Prod.fst A.hgs
      show (g2.d.isSome, g.ob.isSome) = (g.d.isSome, g.ob.isSome)
      rw [t1]
  unfold mkC at h
  cases e : mi ds { g with ob := some (n, []) } with
  | bad =>
    rw [e] at h
    exact h
  | ex y g2 =>
    rw [e] at h
    intro cls dd H' Hf' A rx
    refine h cls dd H' Hf' (aft A (Same.refl _) A.sub fun _ _ _ => rfl) ?_
    obtain ⟨r1, r2⟩ := rx
    refine ⟨r1, ?_⟩
    rcases r2 with r2 | ⟨d, a, v, h1, h2, h3, h4⟩
    · exact .inl r2
    · exact .inr ⟨d, a, v, h1, h2, h3, RVal.re (ad := { ad with oa := x, od := dx }) (ad' := ad) rfl _ _ h4⟩
  | ok ev g2 =>
    rw [e] at h
    cases ev with
    | o co => exact h.elim
    | v d =>
      cases d with
      | non =>
        intro v H' Hf' A rv
        refine ⟨rv, ?_⟩
        have h : match (match g2.ob with
          | some (n', f :: fs) => if n' = n then (match allS (f :: fs) with
            | some fs' => FR.ok (.v (.ins n fs')) { g2 with ob := g.ob }
            | none => .bad) else .bad
          | _ => .bad) with
          | .ok e g' => ∀ v H' Hf', Aft cn ad g g' H Hf H' Hf' → RVal cn ad Hf' e.d v → Q v H'
          | .ex y g' => ∀ cls dd H' Hf', Aft cn ad g g' H Hf H' Hf' → RX cn ad Hf' y cls dd → E cls dd H'
          | .bad => False := h
        cases e2 : g2.ob with
        | none =>
          rw [e2] at h
          exact h.elim
        | some t =>
          obtain ⟨n', fs0⟩ := t
          rw [e2] at h
          cases fs0 with
          | nil => exact h.elim
          | cons f fs =>
            have h : match (if n' = n then (match allS (f :: fs) with
              | some fs' => FR.ok (.v (.ins n fs')) { g2 with ob := g.ob }
              | none => .bad) else .bad) with
              | .ok e g' => ∀ v H' Hf', Aft cn ad g g' H Hf H' Hf' → RVal cn ad Hf' e.d v → Q v H'
              | .ex y g' => ∀ cls dd H' Hf', Aft cn ad g g' H Hf H' Hf' → RX cn ad Hf' y cls dd → E cls dd H'
              | .bad => False := h
            by_cases hn : n' = n
            · rw [if_pos hn] at h
              subst hn
              have h : match (match allS (f :: fs) with
                | some fs' => FR.ok (.v (.ins n' fs')) { g2 with ob := g.ob }
                | none => .bad) with
                | .ok e g' => ∀ v H' Hf', Aft cn ad g g' H Hf H' Hf' → RVal cn ad Hf' e.d v → Q v H'
                | .ex y g' => ∀ cls dd H' Hf', Aft cn ad g g' H Hf H' Hf' → RX cn ad Hf' y cls dd → E cls dd H'
                | .bad => False := h
              cases e3 : allS (f :: fs) with
              | none =>
                rw [e3] at h
                exact h.elim
              | some gs =>
                rw [e3] at h
                obtain ⟨z1, z2, z3, z4, us, z5, z6⟩ := A.dice.obj n' (f :: fs) e2
                have eg := allS_get e3
                have lus : us.length = gs.length := by
                  rw [← z6.1, eg, List.length_map]
                -- the object is whole
                have whole : ∃ ws : List V, us = ws.map some ∧ RVals cn ad Hf' gs ws := by
                  have all : ∀ (gs : List D) (us : List (Option V)), us.length = gs.length → (∀ (i : Nat) (d : D), gs[i]? = some d → ∃ v, us[i]? = some (some v) ∧ RVal cn ad Hf' d v) → ∃ ws : List V, us = ws.map some ∧ RVals cn ad Hf' gs ws := by
                    intro gs
                    induction gs with
                    | nil =>
                      intro us hl _
                      have : us = [] := List.length_eq_zero_iff.mp hl
                      subst this
                      exact ⟨[], rfl, rfl⟩
                    | cons d gs ih =>
                      intro us hl hh
                      cases us with
                      | nil => cases hl
                      | cons u us =>
                        obtain ⟨v, q1, q2⟩ := hh 0 d rfl
                        have q1' : u = some v := by simpa using q1
                        subst q1'
                        obtain ⟨ws, q3, q4⟩ := ih us (by simpa using hl) fun i d' q => by
                          obtain ⟨v', q5, q6⟩ := hh (i + 1) d' (by simpa using q)
                          exact ⟨v', by simpa using q5, q6⟩
                        exact ⟨v :: ws, by rw [q3]; rfl, .cons q2 q4⟩
                  refine all gs us lus fun i d q => ?_
                  obtain ⟨v, q1, q2⟩ := z6.2 i d (by rw [eg, List.getElem?_map, q]; rfl)
                  exact ⟨v, q1, RVal.re (ad := { ad with oa := x, od := dx }) (ad' := ad) rfl _ _ q2⟩
                obtain ⟨ws, ew, rw2⟩ := whole
                have nonempty : us ≠ [] := fun z => by
                  have := z6.1
                  rw [z] at this
                  cases this
                rcases z5 with ⟨_, z⟩ | ⟨z5, z7⟩
                · exact absurd z nonempty
                · have n1 : Hf' x = none := z1
                  have n2 : Hf' dx = none := z2
                  have s2 : Same Hf' (upd (upd Hf' dx (.xd [])) x (SlX.SlO x (cn.cA n') dx us)) := fun b u q => by
                    rw [upd_ne (ne_of_none q n1), upd_ne (ne_of_none q n2)]
                    exact q
                  have s3 : Same (upd (upd Hf' dx (.xd [])) x (SlX.SlO x (cn.cA n') dx us)) H' := upd_sub (upd_sub A.sub z7) z5
                  refine h (.ref x) H' _ (aft A s2 s3 fun b h1 h2 => by rw [upd_ne h1, upd_ne h2]) ?_
                  refine ⟨x, dx, ws, rfl, ?_, ?_, rw2.mono s2⟩
                  · rw [upd_same, ew]
                  · rw [upd_ne ne, upd_same]
            · rw [if_neg hn] at h
              exact h.elim
      | _ => exact h.elim
end
end Dx

namespace Dx
open PySem PySem.Spec PyProof.Rows L2

section
variable {X : Cx} {pins : List (Addr × Obj)} {σ : L2.St} {H : Hp} {s : Shared}
theorem run_RS {CX : CXT} {k : Nat} {f : Addr} {sp : Sp} {E : XK} {Q : VK} {us : List Value} {vs : List V} (F : FnR X.prog X.w X.K X.mg X.base CX k f sp) (hr : Room k X.A) (hx : PassesAt CX X σ E) (I : Inv X pins σ H s) (r : Vals vs us) (h : sp vs H Q E) :
    codeAny (model X.prog X.w) X.A (.call (.ref f) ⟨us, []⟩) (fun r s' => match r with | .ok (.ret v) => EP X pins σ Q v s' | .ok _ => False | .error e => X.xe e s') s := by
  refine codeAny_mono (F X.A X.stack s H us vs Q E hr I.env0 r h) fun r s' hq => ?_
  cases r with
  | error e => exact hx pins H s e s' I hq
  | ok fl =>
    cases fl with
    | ret u => exact I.after hq
    | next => exact False.elim hq
    | brk => exact False.elim hq
    | cont => exact False.elim hq
theorem run_makeRS {CX : CXT} {k : Nat} {C f : Addr} {sp : Sp} {E : XK} {Q : VK} {us : List Value} {vs : List V} (M : Mk X.K C f) (F : FnR X.prog X.w X.K X.mg X.base CX k f sp) (hr : Room (k + 1) X.A) (hx : PassesAt CX X σ E) (I : Inv X pins σ H s) (r : Vals vs us)
    (h : ∀ x dx, H x = none → H dx = none → dx ≠ x → sp (.ref x :: vs) (upd (upd H dx (.own x)) x (.ins C dx [])) (fun v H2 => v = .non ∧ Q (.ref x) H2) E) :
    wpAny (model X.prog X.w) X.A (call (.ref C) us) (EP X pins σ Q) X.xe s := by
  have hq := h (s.heap.objs.size + 1) s.heap.objs.size (I.hok.fresh (Nat.le_succ _)) (I.hok.fresh (Nat.le_refl _)) (Nat.ne_of_lt (Nat.lt_succ_self _))
  have I2 := Inv.made (C := C) I
  refine wpAny_call (make_map (f := f) I.kIn M.makes M.init (beq_iff_eq.mp M.fn) (codeAny_mono (F _ X.stack _ _ (Value.ref (s.heap.objs.size + 1) :: us) _ _ E (hr.make C us [])
    (I2.env0.make C us []) (Paired.cons (show RelV (V.ref (s.heap.objs.size + 1)) (Value.ref (s.heap.objs.size + 1)) from rfl) r) hq) fun r s' hq' => ?_))
  cases r with
  | error e => exact hx pins _ _ e s' I2 hq'
  | ok fl =>
    cases fl with
    | ret u =>
      obtain ⟨v, H', I3, rv, ev, q3⟩ := I2.after hq'
      subst ev
      exact ⟨rv, ⟨V.ref (s.heap.objs.size + 1), H', I3, rfl, q3⟩⟩
    | next => exact False.elim hq'
    | brk => exact False.elim hq'
    | cont => exact False.elim hq'
end

section
variable {X : Cx} {c : Ac} {W : WX} {o e : Expr} {es : List Expr} {pos p apos : Pos} {fo : LSt → Res D} {fs : LSt → Res (List D)} {m : Fm} {k : Nat} {f : Addr} {x mn : Str}
theorem pe_callR {sp : Sp} {E : L2.St → XK} {t : TA} (F : FnR X.prog X.w X.K X.mg X.base (L2.CX X.prog X.w) k f sp) (hr : Room k X.A) (hx : ∀ σ, PassesAt (L2.CX X.prog X.w) X σ (E σ)) (hg : Gl X x) (hm : X.mg x = some (.ref f)) (hk : PySem.W.keepIn X.K (.ref f) = true)
    (ha : PA X (e :: es) t) (hdb : (x == ("__debug__" : Str)) = false := by decide) (he : starEach (e :: es) X.env = (false, eval e X.env) :: starEach es X.env := by rfl) (hpl : (backTo pos (starEach es X.env)).any (·.1) = false := by rfl) :
    PE X (.Call (.Name x p) (e :: es) [] pos) (fun σ H Q => t σ H fun vs H1 => sp vs H1 Q (E σ)) := by
  refine ⟨fun pins s σ H Q I h => ?_⟩
  refine wpAny_Call_Name_kw (ld_glob I hg hm ?_ hdb)
  refine PySem.W.callWith_K (h₀ := X.base) I.ok.mod.kin hk (thn (ha.run pos pins s σ H _ I h) fun us s1 ⟨vs, H1, I1, r, q⟩ => ⟨I1.kIn, ?_⟩) he hpl
  exact wpAny_call (run_RS F hr (hx σ) I1 r q)
def frRes (l : LSt) : FR → Res D
  | .ok e g => .ok e.d (l.withG g)
  | .ex x g => .ex x (l.withG g)
  | .bad => .bad
theorem sCall_eq {m : Fm} {ds : List D} {l : LSt} : (match m ds l.g with
  | .ok e g => .ok e.d (l.withG g)
  | .ex x g => .ex x (l.withG g)
  | .bad => .bad : Res D) = frRes l (m ds l.g) := by cases m ds l.g <;> rfl
theorem spF_res {σ : L2.St} {H Hf : Hp} {l : LSt} {Q : VK} {ds : List D} {vs : List V} (R : REnv c Hf σ H l) (r : RVals c.toCn c.ad Hf ds vs) (h : wpR (frRes l (m ds l.g)) (PD c σ Q Hf) (PX c W σ Hf)) : spF c.toCn m vs H (LkP Q) (WE W σ) :=
  spF_of R r (by
    cases e : m ds l.g with
    | ok ev g => rw [e] at h; exact h
    | ex x g => rw [e] at h; exact h
    | bad => rw [e] at h; exact h)
theorem de_callR (F : FnR X.prog X.w X.K X.mg X.base (L2.CX X.prog X.w) k f (spF c.toCn m)) (hr : Room k X.A) (tk : Takes X W) (hg : Gl X x) (hm : X.mg x = some (.ref f)) (hk : PySem.W.keepIn X.K (.ref f) = true)
    (ha : DA X c W (e :: es) fs) (hdb : (x == ("__debug__" : Str)) = false := by decide) (he : starEach (e :: es) X.env = (false, eval e X.env) :: starEach es X.env := by rfl) (hpl : (backTo pos (starEach es X.env)).any (·.1) = false := by rfl) :
    DE X c W (.Call (.Name x p) (e :: es) [] pos) (sCall m fs) :=
  ⟨(pe_fz (pe_callR F hr (fun σ => passAt tk σ) hg hm hk ha.pa hdb he hpl)).imp' fun σ H Q ⟨Hf, l, R, h⟩ => run_bindA PD.mo R h fun ds l1 vs H1 Hf1 R1 s1 r1 h1 => spF_res R1 r1 (by rw [← sCall_eq]; exact h1)⟩
theorem do_callR (F : FnR X.prog X.w X.K X.mg X.base (L2.CX X.prog X.w) k f (spF c.toCn m)) (hr : Room k X.A) (tk : Takes X W) (hg : Gl X x) (hm : X.mg x = some (.ref f)) (hk : PySem.W.keepIn X.K (.ref f) = true)
    (ha : DA X c W (e :: es) fs) (hdb : (x == ("__debug__" : Str)) = false := by decide) (he : starEach (e :: es) X.env = (false, eval e X.env) :: starEach es X.env := by rfl) (hpl : (backTo pos (starEach es X.env)).any (·.1) = false := by rfl) :
    DO X c W (.Call (.Name x p) (e :: es) [] pos) (sCallO m fs) :=
  ⟨(pe_callR F hr (fun σ => passAt tk σ) hg hm hk ha.pa hdb he hpl).imp' fun σ H Q ⟨Hf, l, R, h⟩ => run_bindA PO'.mo R h fun ds l1 vs H1 Hf1 R1 s1 r1 h1 => spF_ofO R1 r1 (by
    cases e : m ds l1.g with
    | ok ev g =>
      rw [e] at h1
      cases ev with
      | v d => exact h1.elim
      | o co => exact h1
    | ex x g => rw [e] at h1; exact h1
    | bad => rw [e] at h1; exact h1)⟩
theorem pe_makeR {C : Addr} {sp : Sp} {E : L2.St → XK} {t : TA} (M : Mk X.K C f) (F : FnR X.prog X.w X.K X.mg X.base (L2.CX X.prog X.w) k f sp) (hr : Room (k + 1) X.A) (hx : ∀ σ, PassesAt (L2.CX X.prog X.w) X σ (E σ)) (hg : Gl X x) (hm : X.mg x = some (.ref C))
    (ha : PA X (e :: es) t) (hdb : (x == ("__debug__" : Str)) = false := by decide) (he : starEach (e :: es) X.env = (false, eval e X.env) :: starEach es X.env := by rfl) (hpl : (backTo pos (starEach es X.env)).any (·.1) = false := by rfl) :
    PE X (.Call (.Name x p) (e :: es) [] pos) (fun σ H Q => t σ H fun vs H1 => ∀ x dx, H1 x = none → H1 dx = none → dx ≠ x → sp (.ref x :: vs) (upd (upd H1 dx (.own x)) x (.ins C dx [])) (fun v H2 => v = .non ∧ Q (.ref x) H2) (E σ)) := by
  refine ⟨fun pins s σ H Q I h => ?_⟩
  refine wpAny_Call_Name_kw (ld_glob I hg hm ?_ hdb)
  refine PySem.W.callWith_K (h₀ := X.base) I.ok.mod.kin M.kp (thn (ha.run pos pins s σ H _ I h) fun us s1 ⟨vs, H1, I1, r, q⟩ => ⟨I1.kIn, ?_⟩) he hpl
  exact run_makeRS M F hr (hx σ) I1 r q
theorem make_res {n : Nat} {mi : Fm} {σ : L2.St} {H Hf : Hp} {l : LSt} {Q : VK} {ds : List D} {vs : List V} {x dx : Addr} (R : REnv c Hf σ H l) (r : RVals c.toCn c.ad Hf ds vs) (nx : H x = none) (ndx : H dx = none) (ne : dx ≠ x)
    (h : wpR (frRes l (mkC n mi ds l.g)) (PD c σ Q Hf) (PX c W σ Hf)) : spI c.toCn n mi (.ref x :: vs) (upd (upd H dx (.own x)) x (.ins (c.cA n) dx [])) (fun v H2 => v = .non ∧ Q (.ref x) H2) (WE W σ) := by
  refine make_run R.sub R.dice r nx ndx ne ?_
  cases e : mkC n mi ds l.g with
  | bad =>
    rw [e] at h
    exact h
  | ex y g =>
    rw [e] at h
    exact fun cls dd H' Hf' A rx => h cls dd H' Hf' (R.after A) A.grow rx
  | ok ev g =>
    rw [e] at h
    exact fun v H' Hf' A rv => h v H' Hf' (R.after A) A.grow rv
theorem de_make {n : Nat} {mi : Fm} (M : Mk X.K (c.cA n) f) (F : FnR X.prog X.w X.K X.mg X.base (L2.CX X.prog X.w) k f (spI c.toCn n mi)) (hr : Room (k + 1) X.A) (tk : Takes X W) (hg : Gl X x) (hm : X.mg x = some (.ref (c.cA n)))
    (ha : DA X c W (e :: es) fs) (hdb : (x == ("__debug__" : Str)) = false := by decide) (he : starEach (e :: es) X.env = (false, eval e X.env) :: starEach es X.env := by rfl) (hpl : (backTo pos (starEach es X.env)).any (·.1) = false := by rfl) :
    DE X c W (.Call (.Name x p) (e :: es) [] pos) (sCall (mkC n mi) fs) :=
  ⟨(pe_makeR M F hr (fun σ => passAt tk σ) hg hm ha.pa hdb he hpl).imp' fun σ H Q ⟨Hf, l, R, h⟩ => run_bindA PD.mo R h fun ds l1 vs H1 Hf1 R1 s1 r1 h1 x dx n1 n2 n3 => make_res R1 r1 n1 n2 n3 (by rw [← sCall_eq]; exact h1)⟩

structure MthOk (P : Program) (w : World) (mg : Str → Option Value) (base : Heap) (cn : Cn) (k : Nat) (mn : Str) (tb : Nat → Option Fm) : Prop where
  ok : ∀ n m, tb n = some m → SlX.SCls cn.K (cn.cA n) ∧ ∃ g, Meth cn.K (cn.cA n) mn g ∧ FnR P w cn.K mg base (L2.CX P w) k g (spF cn m)
def sMth (tb : Nat → Option Fm) (fo : LSt → Res D) (fs : LSt → Res (List D)) : LSt → Res D := fun l => (fo l).bind fun d l => match d with
  | .ins n ff => (match tb n with
    | some m => (fs l).bind fun ds l => frRes l (m (.ins n ff :: ds) l.g)
    | none => .bad)
  | _ => .bad
def tMth (c : Ac) (W : WX) (tb : Nat → Option Fm) (fo : LSt → Res D) (fs : LSt → Res (List D)) : TE := fun σ H Q => tD c W fo σ H fun x H1 => ∃ n m a dx vs, tb n = some m ∧ x = .ref a ∧ SlX.Slt H1 a (c.cA n) dx vs ∧ tA c W fs σ H1 fun ws H2 => spF c.toCn m (x :: ws) H2 Q (WE W σ)
theorem mth_run {tb : Nat → Option Fm} {σ : L2.St} {H : Hp} {Q : VK} (h : tD c W (sMth tb fo fs) σ H Q) :
    tD c W fo σ H fun x H1 => ∃ n m a dx vs, tb n = some m ∧ x = .ref a ∧ SlX.Slt H1 a (c.cA n) dx vs ∧ tA c W fs σ H1 fun ws H2 => spF c.toCn m (x :: ws) H2 (LkP Q) (WE W σ) := by
  obtain ⟨Hf, l, R, h⟩ := h
  refine run_bind PD.mo R h fun d l1 x H1 Hf1 R1 s1 r1 h1 => ?_
  cases d with
  | ins n ff =>
    have h1 : wpR (match tb n with
      | some m => (fs l1).bind fun ds l => frRes l (m (.ins n ff :: ds) l.g)
      | none => .bad) (PD c σ Q Hf1) (PX c W σ Hf1) := h1
    cases e : tb n with
    | none =>
      rw [e] at h1
      exact h1.elim
    | some m =>
      rw [e] at h1
      have r0 := r1
      obtain ⟨a, dx, vs, rfl, ha, hd, rv⟩ := r1
      refine ⟨n, m, a, dx, vs.map some, e, rfl, .inr ⟨R1.sub _ _ ha, R1.sub _ _ hd⟩, ?_⟩
      exact run_bindA PD.mo R1 h1 fun ds l2 ws H2 Hf2 R2 s2 r2 h2 => spF_res R2 (.cons (r0.mono s2) r2) h2
  | _ => exact h1.elim
theorem de_mth {pl : Sem Bool} {tb : Nat → Option Fm} (hK : X.K = c.K) (ok : MthOk X.prog X.w X.mg X.base c.toCn k mn tb) (hr : Room k X.A) (tk : Takes X W) (ho : DE X c W o fo) (ha : DA X c W (e :: es) fs)
    (hst : starEach (e :: es) X.env = (false, eval e X.env) :: starEach es X.env := by rfl) (hpl : (backTo pos (starEach es X.env)).any (·.1) = false := by rfl)
    (ht : eval (.Call (.Attribute o mn apos) (e :: es) [] pos) X.env = (do
      let ov ← eval o X.env
      standAt apos.atName
      let (f, first) ← holding [ov] (getMethod ov mn pl)
      callWith pos f first (backTo pos (starEach (e :: es) X.env)) (backToKw pos (keywordEach [] X.env))) := by rfl) :
    DE X c W (.Call (.Attribute o mn apos) (e :: es) [] pos) (sMth tb fo fs) := by
  refine ⟨(pe_fz (t := tMth c W tb fo fs) ⟨fun pins s σ H Q I h => ?_⟩).imp' fun _ _ _ h => mth_run h⟩
  refine PySem.W.methodCall_KW (pl := pl) (thn (ho.pe.run pins s σ H _ I h) fun u s1 ⟨x, H1, I1, rx, n, m, a, dx, vs, et, ex, hsl, q⟩ => ?_) ht
  subst ex
  obtain rfl : u = Value.ref a := rx
  obtain ⟨sc, g, hm, F⟩ := ok.ok n m et
  rw [← hK] at sc hm F
  refine SlX.getmethsl_ok I1 hsl sc hm ?_
  refine PySem.W.callWith_K (first := [.ref a]) (h₀ := X.base) I.ok.mod.kin hm.kp (thn (ha.pa.run pos pins s1 σ H1 _ I1 q) fun us s2 ⟨ws, H2, I2, r, q2⟩ => ⟨I2.kIn, ?_⟩) hst hpl
  exact wpAny_call (run_RS (us := .ref a :: us) (vs := .ref a :: ws) F hr (passAt tk σ) I2 (.cons rfl r) q2)
theorem de_mth0 {pl : Sem Bool} {tb : Nat → Option Fm} (hK : X.K = c.K) (ok : MthOk X.prog X.w X.mg X.base c.toCn k mn tb) (hr : Room k X.A) (tk : Takes X W) (ho : DE X c W o fo)
    (ht : eval (.Call (.Attribute o mn apos) [] [] pos) X.env = (do
      let ov ← eval o X.env
      standAt apos.atName
      let (f, first) ← holding [ov] (getMethod ov mn pl)
      callWith pos f first (backTo pos (starEach [] X.env)) (backToKw pos (keywordEach [] X.env))) := by rfl) :
    DE X c W (.Call (.Attribute o mn apos) [] [] pos) (sMth tb fo sNil) := by
  refine ⟨(pe_fz (t := tMth c W tb fo sNil) ⟨fun pins s σ H Q I h => ?_⟩).imp' fun _ _ _ h => mth_run h⟩
  refine PySem.W.methodCall_KW (pl := pl) (thn (ho.pe.run pins s σ H _ I h) fun u s1 ⟨x, H1, I1, rx, n, m, a, dx, vs, et, ex, hsl, q⟩ => ?_) ht
  subst ex
  obtain rfl : u = Value.ref a := rx
  obtain ⟨sc, g, hm, F⟩ := ok.ok n m et
  rw [← hK] at sc hm F
  refine SlX.getmethsl_ok I1 hsl sc hm ?_
  obtain ⟨Hf, l, R, h⟩ := q
  refine PySem.W.callWith_K0 (first := [.ref a]) I1.kIn hm.kp (wpAny_call (run_RS (us := [.ref a]) (vs := [.ref a]) F hr (passAt tk σ) I1 (.cons rfl .nil) (h [] H1 Hf R (Same.refl _) .nil)))
structure PrpOk (P : Program) (w : World) (mg : Str → Option Value) (base : Heap) (cn : Cn) (k : Nat) (f : Str) (tb : Nat → Option Fm) : Prop where
  ok : ∀ n m, tb n = some m → SlX.SCls cn.K (cn.cA n) ∧ ∃ p g, PySem.W.findIn cn.K (.ref (cn.cA n)) f = some (some (.ref p)) ∧ PySem.W.specialIn cn.K (.ref p) "__get__" = some (some (.builtin "property.__get__")) ∧
    PySem.W.takesIn cn.K (.ref p) = some true ∧ (∃ rest, PySem.W.recIn cn.K p "property" = some (.ref g :: rest)) ∧ FnR P w cn.K mg base (L2.CX P w) k g (spF cn m)
def sPrp (tb : Nat → Option Fm) (fo : LSt → Res D) : LSt → Res D := fun l => (fo l).bind fun d l => match d with
  | .ins n ff => (match tb n with
    | some m => (match m [.ins n ff] l.g with
      | .ok e g => .ok e.d (l.withG g)
      | _ => .bad)
    | none => .bad)
  | _ => .bad
theorem cx_false {P : Program} {w : World} {outer : List Env} {H : Hp} {s s' : Shared} {e : Value} (h : L2.CX P w outer H s (fun _ _ _ => False) e s') : False := by
  obtain ⟨_, _, _, _, _, _, _, _, _, _, _, _, z⟩ := h
  exact z.elim
theorem de_prp {tb : Nat → Option Fm} {fn : Str} (hK : X.K = c.K) (ok : PrpOk X.prog X.w X.mg X.base c.toCn k fn tb) (hr : Room (k + 1) X.A) (he : DE X c W e fo) (hb : attributeBase e fn X.env (eval e X.env) = eval e X.env := by rfl) : DE X c W (.Attribute e fn pos) (sPrp tb fo) := by
  have h2 : ∀ σ H Q, tD c W (sPrp tb fo) σ H Q → tD c W fo σ H fun x H1 => ∃ n m a dx vs, tb n = some m ∧ x = .ref a ∧ SlX.Slt H1 a (c.cA n) dx vs ∧ spF c.toCn m [x] H1 (LkP Q) (fun _ _ _ => False) := by
    intro σ H Q h
    obtain ⟨Hf, l, R, h⟩ := h
    refine run_bind PD.mo R h fun d l1 x H1 Hf1 R1 s1 r1 h1 => ?_
    cases d with
    | ins n ff =>
      have h1 : wpR (match tb n with
        | some m => (match m [.ins n ff] l1.g with
          | .ok e g => .ok e.d (l1.withG g)
          | _ => .bad)
        | none => .bad) (PD c σ Q Hf1) (PX c W σ Hf1) := h1
      cases e : tb n with
      | none =>
        rw [e] at h1
        exact h1.elim
      | some m =>
        rw [e] at h1
        have r0 := r1
        obtain ⟨a, dx, vs, rfl, ha, hd, rv⟩ := r1
        refine ⟨n, m, a, dx, vs.map some, e, rfl, .inr ⟨R1.sub _ _ ha, R1.sub _ _ hd⟩, ?_⟩
        have h1 : wpR (match m [.ins n ff] l1.g with
          | .ok e g => .ok e.d (l1.withG g)
          | _ => .bad) (PD c σ Q Hf1) (PX c W σ Hf1) := h1
        have z := spF_of (W := fun _ _ _ _ => False) (m := m) (Q := Q) R1 (.cons r0 .nil) (by
          cases e2 : m [.ins n ff] l1.g with
          | ok ev g =>
            rw [e2] at h1
            exact h1
          | ex y g =>
            rw [e2] at h1
            exact h1.elim
          | bad =>
            rw [e2] at h1
            exact h1)
        exact z
    | _ => exact h1.elim
  refine ⟨(pe_fz (t := fun σ H Q => tD c W fo σ H fun x H1 => ∃ n m a dx vs, tb n = some m ∧ x = .ref a ∧ SlX.Slt H1 a (c.cA n) dx vs ∧ spF c.toCn m [x] H1 Q (fun _ _ _ => False)) ⟨fun pins s σ H Q I h => ?_⟩).imp' h2⟩
  refine attr_of hb (thn (he.pe.run pins s σ H _ I h) fun u s1 ⟨x, H1, I1, rx, n, m, a, dx, vs, et, ex, hsl, q⟩ => ?_)
  subst ex
  obtain rfl : u = Value.ref a := rx
  obtain ⟨sc, p, g, at_, get, tk, rc, F⟩ := ok.ok n m et
  rw [← hK] at sc at_ get tk rc F
  exact prop_sl I1 hsl sc at_ get tk rc F hr (fun _ _ _ _ z => cx_false z) q
end
end Dx

namespace Dx
open PySem PySem.Spec PyProof.Rows L2

def putO (i : Nat) (d : D) (fs : List (Option D)) : List (Option D) := (fs ++ List.replicate (i + 1 - fs.length) none).set i (some d)
theorem ROs.put {cn : Cn} {ad : Ad} {Hf : Hp} {fs : List (Option D)} {us : List (Option V)} {d : D} {v : V} (r : ROs cn ad Hf fs us) (i : Nat) (h : RVal cn ad Hf d v) : ROs cn ad Hf (putO i d fs) (SlX.putS i v us) := by
  refine ⟨?_, fun j e q => ?_⟩
  · unfold putO SlX.putS
    simp only [List.length_set, List.length_append, List.length_replicate]
    rw [r.1]
  · by_cases hj : j = i
    · subst hj
      unfold putO at q
      rw [List.getElem?_set_self (by simp only [List.length_append, List.length_replicate]; omega)] at q
      cases q
      exact ⟨v, SlX.putS_get _ _ _, h⟩
    · unfold putO at q
      rw [List.getElem?_set_ne (Ne.symm hj)] at q
      by_cases hl : j < fs.length
      · rw [List.getElem?_append_left hl] at q
        obtain ⟨w, h1, h2⟩ := r.2 j e q
        exact ⟨w, (SlX.putS_ne hj).mpr h1, h2⟩
      · rw [List.getElem?_append_right (by omega), List.getElem?_replicate] at q
        split at q
        · cases q
        · cases q
theorem REnv.setf {c : Ac} {Hf H : Hp} {σ : L2.St} {l : LSt} (R : REnv c Hf σ H l) {n : Nat} {fs : List (Option D)} {us : List (Option V)} {i : Nat} {d : D} {v : V} (hob : l.g.ob = some (n, fs)) (hs : SlX.Slt H c.ad.oa (c.cA n) c.ad.od us) (r : ROs c.toCn c.ad Hf fs us) (rv : RVal c.toCn c.ad Hf d v) :
    REnv c Hf σ (SlX.slH H c.ad.oa (c.cA n) c.ad.od (SlX.putS i v us)) { l with g := { l.g with ob := some (n, putO i d fs) } } := by
  obtain ⟨q1, q2, q3, q4, _, _, _⟩ := R.dice.obj n fs hob
  have hsome : l.g.sh.2 = true := by
    show l.g.ob.isSome = true
    rw [hob]
    rfl
  have hne : ∀ {a : Addr}, ¬ isD c.toCn l.g c.ad a → a ≠ c.ad.oa ∧ a ≠ c.ad.od := fun {a} nd => ⟨fun z => nd (.inr (.inl ⟨hsome, .inl z⟩)), fun z => nd (.inr (.inl ⟨hsome, .inr z⟩))⟩
  have sh : ({ l.g with ob := some (n, putO i d fs) } : G).sh = l.g.sh := by
    show (l.g.d.isSome, true) = (l.g.d.isSome, l.g.ob.isSome)
    rw [hob]
    rfl
  have isd : ∀ a, isD c.toCn ({ l.g with ob := some (n, putO i d fs) } : G) c.ad a ↔ isD c.toCn l.g c.ad a := fun a => isD_iff sh
  have keep : ∀ a, a ≠ c.ad.oa → a ≠ c.ad.od → SlX.slH H c.ad.oa (c.cA n) c.ad.od (SlX.putS i v us) a = H a := fun a h1 h2 => SlX.slH_ne h1 h2
  have tpk : TupOk Hf (SlX.slH H c.ad.oa (c.cA n) c.ad.od (SlX.putS i v us)) := by
    unfold SlX.slH
    exact (R.dice.tp.up).up (by intro _ z; unfold SlX.SlO at z; cases z)
  have tbk : TbOk c.toCn Hf (SlX.slH H c.ad.oa (c.cA n) c.ad.od (SlX.putS i v us)) := R.dice.tb.keep (Same.refl _) (fun a hT => keep a (by
      rcases hs with ⟨h, _⟩ | ⟨h, _⟩
      · exact R.dice.tb.ne hT h fun ps z => by cases z
      · exact R.dice.tb.ne hT h fun ps z => by unfold SlX.SlO at z; cases z) (by
      rcases q4 with h | h
      · exact R.dice.tb.ne hT h fun ps z => by cases z
      · exact R.dice.tb.ne hT h fun ps z => by cases z)) fun _ _ => rfl
  refine ⟨R.len, fun j s hj => ?_, R.dis, fun b u hb => ?_, R.base, fun b u hb => ?_, ⟨fun x y z q => ?_, fun k gs q => ?_, tbk, tpk⟩, sh.trans R.hgs⟩
  · obtain ⟨x, e, q⟩ := R.slot j s hj
    refine ⟨x, e, ?_⟩
    cases s with
    | un => exact True.intro
    | slf => exact q
    | fn => exact q
    | er _ _ => exact q
    | v d => exact q
    | own co' =>
      obtain ⟨a', o', qa, ha', r', n', n0', nd'⟩ := q
      obtain ⟨e1, e2⟩ := hne nd'
      exact ⟨a', o', qa, by rw [keep a' e1 e2]; exact ha', r', n', n0', fun z => nd' ((isd a').mp z)⟩
  · have e1 : b ≠ c.ad.oa := fun z => by
      rw [z, q1] at hb
      cases hb
    have e2 : b ≠ c.ad.od := fun z => by
      rw [z, q2] at hb
      cases hb
    rw [keep b e1 e2]
    exact R.sub b u hb
  · obtain ⟨f1, f2, f3⟩ := R.frame b u hb
    obtain ⟨e1, e2⟩ := hne f3
    exact ⟨by rw [keep b e1 e2]; exact f1, f2, fun z => f3 ((isd b).mp z)⟩
  · obtain ⟨h1, h2⟩ := R.dice.dc x y z q
    have e1 : c.ad.d ≠ c.ad.oa := fun w => by
      rcases hs with ⟨h, _⟩ | ⟨h, _⟩
      · rw [← w, h2] at h
        cases h
      · rw [← w, h2] at h
        unfold SlX.SlO at h
        cases h
    have e2 : c.ad.d ≠ c.ad.od := fun w => by
      rcases q4 with h | h
      · rw [← w, h2] at h
        cases h
      · rw [← w, h2] at h
        cases h
    exact ⟨h1, by rw [keep _ e1 e2]; exact h2⟩
  · cases q
    refine ⟨q1, q2, q3, .inr ?_, SlX.putS i v us, SlX.slH_slt q3, r.put i rv⟩
    unfold SlX.slH
    rw [upd_ne q3, upd_same]
def sSelf (i : Nat) (tb : Nat → Option Nat) : LSt → Res D := fun l => match l.sl[i]? with
  | some .slf => (match l.g.ob with
    | some (n, fs) => opt ((tb n).bind fun j => (fs[j]?).bind id) l
    | none => .bad)
  | _ => .bad
def zSelf (i : Nat) (tb : Nat → Option Nat) (fe : LSt → Res D) : LSt → Fl := fun l => (fe l).toFl fun d l => match l.sl[i]? with
  | some .slf => (match l.g.ob with
    | some (n, fs) => (match tb n with
      | some j => .nx { l with g := { l.g with ob := some (n, putO j d fs) } }
      | none => .bad)
    | none => .bad)
  | _ => .bad
section
variable {X : Cx} {c : Ac} {W : WX} {e : Expr} {pos pos' np : Pos} {fe : LSt → Res D} {f x : Str} {tb : Nat → Option Nat} {i : Nat}
theorem ds_self (hK : X.K = c.K) (ok : AttrOk c.toCn f tb) (p : PE X (.Name x np) (tVar i)) (he : DE X c W e fe) (hs : swapsWith e (some (.Attribute (.Name x np) f pos')) pos.line X.env = pure false := by rfl) : DS X c W (.Assign [.Attribute (.Name x np) f pos'] e pos) (zSelf i tb fe) :=
  ⟨(SlX.ps_sl p he.pe hs).imp' fun D σ H ⟨Hf, l, R, h⟩ => to_bind R h fun d l1 v H1 Hf1 R1 s1 r1 h1 => by
    cases e1 : l1.sl[i]? with
    | none =>
      rw [e1] at h1
      exact h1.elim
    | some s =>
      rw [e1] at h1
      cases s with
      | slf =>
        obtain ⟨x0, ex, rs⟩ := R1.slot i _ e1
        have rs' : x0 = some (.ref c.ad.oa) := rs
        rw [rs'] at ex
        refine ⟨.ref c.ad.oa, ex, ?_⟩
        have h1 : wpF c W D Hf1 (match l1.g.ob with
          | some (n, fs) => (match tb n with
            | some j => .nx { l1 with g := { l1.g with ob := some (n, putO j d fs) } }
            | none => .bad)
          | none => .bad) := h1
        cases e2 : l1.g.ob with
        | none =>
          rw [e2] at h1
          exact h1.elim
        | some t =>
          obtain ⟨n, fs⟩ := t
          rw [e2] at h1
          have h1 : wpF c W D Hf1 (match tb n with
            | some j => .nx { l1 with g := { l1.g with ob := some (n, putO j d fs) } }
            | none => .bad) := h1
          cases e3 : tb n with
          | none =>
            rw [e3] at h1
            exact h1.elim
          | some j =>
            rw [e3] at h1
            obtain ⟨q1, q2, q3, q4, us, q5, q6⟩ := R1.dice.obj n fs e2
            obtain ⟨sc, p, sl⟩ := ok n j e3
            refine ⟨c.ad.oa, c.cA n, c.ad.od, p, us, j, rfl, q5, ?_, ?_, h1 σ _ Hf1 (R1.setf e2 q5 q6 r1) (Same.refl _)⟩
            · rw [hK]
              exact sc
            · rw [hK]
              exact sl
      | _ => exact h1.elim⟩
end
def mOfI (n k : Nat) (fb : LSt → Fl) : Fm := fun ds g => if ds.length + 1 = k then (fb ⟨.slf :: ds.map .v ++ List.replicate (n - k) .un, g⟩).fr else .bad
theorem env_startI {cn : Cn} {ad : Ad} {Hf H : Hp} {ds : List D} {vs : List V} {g : G} {N : List Str} (s : Same Hf H) (d : DiceOk cn Hf H ad g) (r : RVals cn ad Hf ds vs) :
    REnv { toCn := cn, hid := hidOf cn H Hf g ad, Hf0 := Hf, ad := ad, gs := g.sh } Hf (L2.start N (.ref ad.oa :: vs)) H ⟨.slf :: ds.map .v ++ List.replicate (N.length - (ds.length + 1)) .un, g⟩ := by
  have lens : (L2.start N (V.ref ad.oa :: vs)) = some (V.ref ad.oa) :: (vs.map some ++ List.replicate (N.length - (vs.length + 1)) none) := rfl
  have sls : (Slot.slf :: ds.map Slot.v ++ List.replicate (N.length - (ds.length + 1)) Slot.un) = Slot.slf :: (ds.map Slot.v ++ List.replicate (N.length - (ds.length + 1)) Slot.un) := rfl
  refine ⟨?_, fun i x h => ?_, fun i j x y a h _ o _ _ _ => ?_, s, Same.refl _, fun _ _ h => hidOf_some h, d, rfl⟩
  · rw [lens, sls]
    simp only [List.length_cons, List.length_append, List.length_map, List.length_replicate]
    rw [r.length]
  · have h' : (Slot.slf :: (ds.map Slot.v ++ List.replicate (N.length - (ds.length + 1)) Slot.un))[i]? = some x := h
    rw [lens]
    cases i with
    | zero =>
      cases h'
      exact ⟨_, rfl, rfl⟩
    | succ i =>
      rw [List.getElem?_cons_succ] at h' ⊢
      by_cases hi : i < ds.length
      · rw [List.getElem?_append_left (by rw [List.length_map]; exact hi), List.getElem?_map, List.getElem?_eq_getElem hi] at h'
        cases h'
        obtain ⟨v, e1, e2⟩ := r.get (List.getElem?_eq_getElem hi)
        refine ⟨some v, ?_, v, rfl, e2⟩
        rw [List.getElem?_append_left (by rw [List.length_map, ← r.length]; exact hi), List.getElem?_map, e1]
        rfl
      · rw [List.getElem?_append_right (by rw [List.length_map]; omega), List.length_map, List.getElem?_replicate] at h'
        split at h'
        · rename_i hl
          cases h'
          refine ⟨none, ?_, True.intro⟩
          rw [List.getElem?_append_right (by rw [List.length_map, ← r.length]; omega), List.length_map, List.getElem?_replicate, ← r.length, if_pos hl]
        · cases h'
  · exfalso
    have h' : (Slot.slf :: (ds.map Slot.v ++ List.replicate (N.length - (ds.length + 1)) Slot.un))[i]? = some x := h
    cases i with
    | zero =>
      cases h'
      cases o
    | succ i =>
      rw [List.getElem?_cons_succ] at h'
      by_cases hi : i < ds.length
      · rw [List.getElem?_append_left (by rw [List.length_map]; exact hi), List.getElem?_map, List.getElem?_eq_getElem hi] at h'
        cases h'
        cases o
      · rw [List.getElem?_append_right (by rw [List.length_map]; omega), List.length_map, List.getElem?_replicate] at h'
        split at h'
        · cases h'
          cases o
        · cases h'
section
variable {P : Program} {w : World} {K : PySem.W.Frag} {mg : Str → Option Value} {base : Heap}
def EndW (cn : Cn) (ad : Ad) (g : G) (H Hf : Hp) (Q : VK) (E : XK) : FR → Prop
  | .ok e g' => ∀ v H' Hf', Aft cn ad g g' H Hf H' Hf' → REV cn ad H Hf' H' g' e v → Q v H'
  | .ex x g' => ∀ cls dd H' Hf', Aft cn ad g g' H Hf H' Hf' → RX cn ad Hf' x cls dd → E cls dd H'
  | .bad => False
theorem ends_ok {cn : Cn} {ad : Ad} {g : G} {H Hf : Hp} {Q : VK} {E : XK} {fl : Fl} (h : EndW cn ad g H Hf Q E fl.fr) : wpF { toCn := cn, hid := hidOf cn H Hf g ad, Hf0 := Hf, ad := ad, gs := g.sh } (fun cls d _ H' => E cls d H') { nx := fun _ H' => Q .non H', rt := Q } Hf fl := by
  have aft : ∀ {σ' : L2.St} {H' Hf' : Hp} {l : LSt}, REnv { toCn := cn, hid := hidOf cn H Hf g ad, Hf0 := Hf, ad := ad, gs := g.sh } Hf' σ' H' l → Aft cn ad g l.g H Hf H' Hf' := fun {σ' H' Hf' l} R => ⟨R.base, R.sub, fun a o h1 h2 h3 => ⟨(R.frame a o (hidOf_of h1 h2 h3)).1, (R.frame a o (hidOf_of h1 h2 h3)).2.1⟩, R.dice, R.hgs⟩
  cases fl with
  | nx l => exact fun σ' H' Hf' R _ => h .non H' Hf' (aft R) rfl
  | rt ev l =>
    refine fun v σ' H' Hf' R _ rv => h v H' Hf' (aft R) ?_
    cases ev with
    | v d => exact rv
    | o co =>
      obtain ⟨a, o, e1, ha, rc, n, n0, nd⟩ := rv
      refine ⟨a, o, e1, ha, rc, n, ?_, nd⟩
      cases e2 : H a with
      | none => rfl
      | some u =>
        exfalso
        by_cases hf : Hf a = none
        · have hd : ¬ isD cn g ad a := fun z => nd ((isD_iff R.hgs).mpr z)
          have := hidOf_of e2 hf hd
          have n0' : hidOf cn H Hf g ad a = none := n0
          rw [n0'] at this
          cases this
        · cases e3 : Hf a with
          | none => exact hf e3
          | some w =>
            have := R.base _ _ e3
            rw [n] at this
            cases this
  | ex x l => exact fun cls dd σ' H' Hf' R _ rx => h cls dd H' Hf' (aft R) rx
  | bk l => exact h.elim
  | ct l => exact h.elim
  | bad => exact h.elim
theorem fnD_ok {cn : Cn} {x qual : Str} {params : Arguments} {body : List Stmt} {scope : Scope} {dvs : List V} {kws : List (Str × V)} {f : Addr} {fd : FuncData} {N ps : List Str} {k : Nat} {fb : LSt → Fl} (F : FunD K x qual params body scope dvs kws f fd) (S : FnScope N ps scope)
    (hbody : ∀ (cdv : Value) (A : Around) (outer : List Env) (s : Shared) (H : Hp) (E : XK) (c : Ac), c.toCn = cn → Room k (A.deeper (envOfC qual scope s.heap.objs.size f cdv)) →
      DSs (cxOf (L2.CX P w) P w K mg base N qual scope f cdv A outer s H E) c (fun cls d _ H' => E cls d H') body fb) : FnOk P w K mg base (L2.CX P w) (k + 1) f fd ps (fun vs H Q E => vs.length = ps.length ∧ spF cn (mOf N.length ps.length fb) vs H Q E) := by
  refine funD_ok F S (fun vs H Q E h => h.1) (fun cdv A outer s H vs Q E hr h => ?_)
  obtain ⟨hl, Hf, ad, ds, g, sm, dc, r, h⟩ := h
  refine ⟨_, (hbody cdv A outer s H E { toCn := cn, hid := hidOf cn H Hf g ad, Hf0 := Hf, ad := ad, gs := g.sh } rfl hr).pss, Hf, _, env_start (N := N) sm dc r, ?_⟩
  have hd : ds.length = ps.length := by rw [r.length, hl]
  refine ends_ok ?_
  have h' : EndW cn ad g H Hf Q E (mOf N.length ps.length fb ds g) := by
    cases e : mOf N.length ps.length fb ds g with
    | ok ev g' => rw [e] at h; exact h
    | ex x g' => rw [e] at h; exact h
    | bad => rw [e] at h; exact h
  unfold mOf at h'
  rw [if_pos hd] at h'
  rw [hd]
  exact h'
theorem init_ok {cn : Cn} {x qual : Str} {params : Arguments} {body : List Stmt} {scope : Scope} {dvs : List V} {kws : List (Str × V)} {f : Addr} {fd : FuncData} {N ps : List Str} {k n : Nat} {fb : LSt → Fl} (F : FunD K x qual params body scope dvs kws f fd) (S : FnScope N ps scope)
    (hbody : ∀ (cdv : Value) (A : Around) (outer : List Env) (s : Shared) (H : Hp) (E : XK) (c : Ac), c.toCn = cn → Room k (A.deeper (envOfC qual scope s.heap.objs.size f cdv)) →
      DSs (cxOf (L2.CX P w) P w K mg base N qual scope f cdv A outer s H E) c (fun cls d _ H' => E cls d H') body fb) : FnOk P w K mg base (L2.CX P w) (k + 1) f fd ps (fun vs H Q E => vs.length = ps.length ∧ spI cn n (mOfI N.length ps.length fb) vs H Q E) := by
  refine funD_ok F S (fun vs H Q E h => h.1) (fun cdv A outer s H vs Q E hr h => ?_)
  obtain ⟨hl, Hf, ad, ds, g, vs', rfl, hob, sm, dc, r, h⟩ := h
  refine ⟨_, (hbody cdv A outer s H E { toCn := cn, hid := hidOf cn H Hf g ad, Hf0 := Hf, ad := ad, gs := g.sh } rfl hr).pss, Hf, _, env_startI (N := N) sm dc r, ?_⟩
  have hd : ds.length + 1 = ps.length := by
    rw [r.length, ← hl]
    rfl
  refine ends_ok ?_
  have h' : EndW cn ad g H Hf Q E (mOfI N.length ps.length fb ds g) := by
    cases e : mOfI N.length ps.length fb ds g with
    | ok ev g' => rw [e] at h; exact h
    | ex x g' => rw [e] at h; exact h
    | bad => rw [e] at h; exact h
  unfold mOfI at h'
  rw [if_pos hd] at h'
  rw [hd]
  exact h'
def FlatD (cn : Cn) (dd : List D) (dvs : List V) : Prop := ∀ ad Hf, RVals cn ad Hf dd dvs
theorem fnr_of {cn : Cn} {f : Addr} {fd : FuncData} {ps : List Str} {k n p : Nat} {fb : LSt → Fl} {m : Fm} {dd : List D} {dvs : List V} {ds : List Value} (F : FnOk P w K mg base (L2.CX P w) k f fd ps (fun vs H Q E => vs.length = ps.length ∧ spF cn (mOf n p fb) vs H Q E)) (hp : ps.length = p)
    (hb : L2.Binds K fd ps ds) (hd : Vals dvs ds) (fl : FlatD cn dd dvs) (i : ∀ xs g, m xs g ≠ .bad → mOf n p fb (xs ++ dd) g = m xs g) : FnR P w K mg base (L2.CX P w) k f (spF cn m) := by
  refine (F.raw hb hd).imp fun vs H Q E h => ?_
  obtain ⟨Hf, ad, xs, g, sm, dc, r, q⟩ := h
  have nb : m xs g ≠ .bad := fun z => by
    rw [z] at q
    exact q
  have e := i xs g nb
  have r2 : RVals cn ad Hf (xs ++ dd) (vs ++ dvs) := r.append (fl ad Hf)
  refine ⟨?_, Hf, ad, xs ++ dd, g, sm, dc, r2, by rw [e]; exact q⟩
  rw [← r2.length, hp]
  unfold mOf at e
  split at e
  · assumption
  · exact absurd e.symm nb
theorem fnr_ofI {cn : Cn} {f : Addr} {fd : FuncData} {ps : List Str} {k n p c : Nat} {fb : LSt → Fl} {m : Fm} {dd : List D} {dvs : List V} {ds : List Value} (F : FnOk P w K mg base (L2.CX P w) k f fd ps (fun vs H Q E => vs.length = ps.length ∧ spI cn c (mOfI n p fb) vs H Q E)) (hp : ps.length = p)
    (hb : L2.Binds K fd ps ds) (hd : Vals dvs ds) (fl : FlatD cn dd dvs) (i : ∀ xs g, m xs g ≠ .bad → mOfI n p fb (xs ++ dd) g = m xs g) : FnR P w K mg base (L2.CX P w) k f (spI cn c m) := by
  refine (F.raw hb hd).imp fun vs H Q E h => ?_
  obtain ⟨Hf, ad, xs, g, vs', rfl, hob, sm, dc, r, q⟩ := h
  have nb : m xs g ≠ .bad := fun z => by
    rw [z] at q
    exact q
  have e := i xs g nb
  have r2 : RVals cn ad Hf (xs ++ dd) (vs' ++ dvs) := r.append (fl ad Hf)
  refine ⟨?_, Hf, ad, xs ++ dd, g, vs' ++ dvs, rfl, hob, sm, dc, r2, by rw [e]; exact q⟩
  show (V.ref ad.oa :: (vs' ++ dvs)).length = ps.length
  rw [List.length_cons, ← r2.length, hp]
  unfold mOfI at e
  split at e
  · assumption
  · exact absurd e.symm nb
end
end Dx

namespace Dx
open PySem PySem.Spec PyProof.Rows L2

section
variable {X : Cx} {c : Ac} {W : WX}
end

def sChain (g g' : D → D → Option D) (a b k : LSt → Res D) : LSt → Res D := fun l => (a l).bind fun x l => (b l).bind fun y l => (opt (g x y) l).bind fun z l => match z with
  | .bl true => (k l).bind fun w l => opt (g' y w) l
  | .bl false => .ok (.bl false) l
  | _ => .bad
section
variable {X : Cx} {c : Ac} {W : WX} {a b k : Expr} {pos : Pos} {fa fb fk : LSt → Res D} {op op' : CmpOp} {r r' : R2} {g g' : D → D → Option D}
theorem chain_run (ok : BinOk c r g) (ok' : BinOk c r' g') {σ : L2.St} {H : Hp} {Q : VK} (h : tD c W (sChain g g' fa fb fk) σ H Q) : tChain r r' (tD c W fa) (tD c W fb) (tD c W fk) σ H Q := by
  obtain ⟨Hf, l, R, h⟩ := h
  refine run_bind PD.mo R h fun d1 l1 x H1 Hf1 R1 s1 r1 h1 => ?_
  refine run_bind PD.mo R1 h1 fun d2 l2 y H2 Hf2 R2 s2 r2 h2 => ?_
  have h2 : wpR ((opt (g d1 d2) l2).bind fun z l => match z with
    | .bl true => (fk l).bind fun w l => opt (g' d2 w) l
    | .bl false => .ok (.bl false) l
    | _ => .bad) (PD c σ Q Hf2) (PX c W σ Hf2) := h2
  cases e : g d1 d2 with
  | none =>
    rw [e] at h2
    exact h2.elim
  | some d =>
    rw [e] at h2
    refine ok Hf2 H2 σ l2 d1 d2 d x y _ R2 (r1.mono s2) r2 e fun v H3 Hf3 R3 s3 r3 => ?_
    cases d with
    | bl z =>
      cases z with
      | false => exact ⟨false, r3, h2 _ H3 Hf3 R3 s3 rfl⟩
      | true =>
        refine ⟨true, r3, ?_⟩
        rw [if_pos rfl]
        have h3 : wpR ((fk l2).bind fun w l => opt (g' d2 w) l) (PD c σ Q Hf3) (PX c W σ Hf3) := wpR.mono PD.mo s3 h2
        refine run_bind PD.mo R3 h3 fun d4 l4 w H4 Hf4 R4 s4 r4 h4 => ?_
        cases e2 : g' d2 d4 with
        | none =>
          rw [e2] at h4
          exact h4.elim
        | some d' =>
          rw [e2] at h4
          exact ok' Hf4 H4 σ l4 d2 d4 d' y w Q R4 ((r2.mono s3).mono s4) r4 e2 h4
    | _ => exact h2.elim
theorem de_chain (ho : OpR X (compareOp op) r) (ok : BinOk c r g) (ho' : OpR X (compareOp op') r') (ok' : BinOk c r' g') (ha : DE X c W a fa) (hb : DE X c W b fb) (hk : DE X c W k fk)
    (hm : lastMarks [op, op'] [b, k] = false := by with_unfolding_all rfl) : DE X c W (.Compare a [op, op'] [b, k] pos) (sChain g g' fa fb fk) :=
  ⟨(pe_chain ho ho' ha.pe hb.pe hk.pe hm).imp' fun _ _ _ h => chain_run ok ok' h⟩
theorem dt_chain (ho : OpR X (compareOp op) r) (ok : BinOk c r g) (ho' : OpR X (compareOp op') r') (ok' : BinOk c r' g') (ha : DE X c W a fa) (hb : DE X c W b fb) (hk : DE X c W k fk)
    (hm : lastMarks [op, op'] [b, k] = false := by with_unfolding_all rfl) : DT X c W (.Compare a [op, op'] [b, k] pos) (sTst (sChain g g' fa fb fk)) :=
  ⟨(pt_chain ho ho' ha.pe hb.pe hk.pe hm).imp' fun _ _ _ h => by
    obtain ⟨Hf, l, R, h⟩ := h
    refine chain_run ok ok' ⟨Hf, l, R, ?_⟩
    have h' : wpR ((sChain g g' fa fb fk l).bind fun d l => opt (blD d) l) (PB c _ _ Hf) (PX c W _ Hf) := h
    cases e : sChain g g' fa fb fk l with
    | bad =>
      rw [e] at h'
      exact h'
    | ex x l1 =>
      rw [e] at h'
      exact h'
    | ok d l1 =>
      rw [e] at h'
      cases d with
      | bl k => exact fun v H' Hf' R' s' r' => ⟨k, r', h' H' Hf' R' s'⟩
      | _ => exact h'.elim⟩
def sAndV (a b : LSt → Res D) : LSt → Res D := fun l => (a l).bind fun x l => match x with
  | .bl true => b l
  | .bl false => .ok (.bl false) l
  | _ => .bad
def sOrV (a b : LSt → Res D) : LSt → Res D := fun l => (a l).bind fun x l => match x with
  | .bl false => b l
  | .bl true => .ok (.bl true) l
  | _ => .bad
def notD : D → Option D
  | .bl b => some (.bl (!b))
  | _ => none
variable {rest : List Expr}
theorem de_one {op : BoolOp} (ha : DE X c W a fa) : DE X c W (.BoolOp op [a] pos) fa := ⟨pe_one ha.pe⟩
theorem de_and (ha : DE X c W a fa) (hb : DE X c W (.BoolOp .And (b :: rest) pos) fb) : DE X c W (.BoolOp .And (a :: b :: rest) pos) (sAndV fa fb) :=
  ⟨(pe_and ha.pe hb.pe).imp' fun _ _ _ ⟨Hf, l, R, h⟩ => run_bind PD.mo R h fun d l1 v H1 Hf1 R1 s1 r1 h1 => by
    cases d with
    | bl z =>
      cases z with
      | true => exact ⟨true, r1, by rw [if_pos rfl]; exact ⟨Hf1, l1, R1, h1⟩⟩
      | false => exact ⟨false, r1, by rw [if_neg (by decide)]; exact h1 _ H1 Hf1 R1 (Same.refl _) rfl⟩
    | _ => exact h1.elim⟩
theorem de_or (ha : DE X c W a fa) (hb : DE X c W (.BoolOp .Or (b :: rest) pos) fb) : DE X c W (.BoolOp .Or (a :: b :: rest) pos) (sOrV fa fb) :=
  ⟨(pe_or ha.pe hb.pe).imp' fun _ _ _ ⟨Hf, l, R, h⟩ => run_bind PD.mo R h fun d l1 v H1 Hf1 R1 s1 r1 h1 => by
    cases d with
    | bl z =>
      cases z with
      | true => exact ⟨true, r1, by rw [if_pos rfl]; exact h1 _ H1 Hf1 R1 (Same.refl _) rfl⟩
      | false => exact ⟨false, r1, by rw [if_neg (by decide)]; exact ⟨Hf1, l1, R1, h1⟩⟩
    | _ => exact h1.elim⟩
theorem de_not (ha : DE X c W a fa) : DE X c W (.UnaryOp .Not a pos) (sUn notD fa) :=
  ⟨(pe_not ha.pe).imp' fun _ _ _ ⟨Hf, l, R, h⟩ => run_bind PD.mo R h fun d l1 v H1 Hf1 R1 s1 r1 h1 => by
    cases d with
    | bl z => exact ⟨z, r1, h1 _ H1 Hf1 R1 (Same.refl _) rfl⟩
    | _ => exact h1.elim⟩
end

section
variable {X : Cx} {c : Ac} {W : WX} {e : Expr} {es : List Expr} {fs : LSt → Res (List D)} {x : Str} {p pos : Pos} {id T : String} {r : List V → Hp → VK → Prop} {g : List D → Option D}
theorem de_blt (hc : CallR X (.builtin id) r) (ok : BltOk c r g) (hg : Gl X x) (hm : X.mg x = none) (hb : bootBuiltins x = some (.builtin id)) (ha : DA X c W (e :: es) fs) (hn : x ≠ "__name__" := by decide) (hdb : (x == ("__debug__" : Str)) = false := by decide)
    (he : starEach (e :: es) X.env = (false, eval e X.env) :: starEach es X.env := by rfl) (hpl : (backTo pos (starEach es X.env)).any (·.1) = false := by rfl) : DE X c W (.Call (.Name x p) (e :: es) [] pos) (sBlt g fs) :=
  ⟨(pe_callB hc hg hm hb ha.pa hn hdb he hpl).imp' fun _ _ _ h => blt_run ok h⟩
theorem de_bltT (hc : CallR X (.type T) r) (ok : BltOk c r g) (hg : Gl X x) (hm : X.mg x = none) (hb : bootBuiltins x = some (.type T)) (ha : DA X c W (e :: es) fs) (hn : x ≠ "__name__" := by decide) (hdb : (x == ("__debug__" : Str)) = false := by decide)
    (he : starEach (e :: es) X.env = (false, eval e X.env) :: starEach es X.env := by rfl) (hpl : (backTo pos (starEach es X.env)).any (·.1) = false := by rfl) : DE X c W (.Call (.Name x p) (e :: es) [] pos) (sBlt g fs) :=
  ⟨(pe_callTy hc hg hm hb ha.pa hn hdb he hpl).imp' fun _ _ _ h => blt_run ok h⟩
def lenD : List D → Option D
  | [.str y] => if y.length ≤ szL then some (.int (y.length : Nat)) else none
  | [.tup ds] => some (.int (ds.length : Nat))
  | [.lst ds] => some (.int (ds.length : Nat))
  | [.scr ns] => some (.int (ns.length : Nat))
  | [.dK ks ds] => if ks.length = ds.length then some (.int (ks.length : Nat)) else none
  | _ => none
abbrev rLen2 (K : PySem.W.Frag) : List V → Hp → VK → Prop := fun xs H Q => (∃ x n, xs = [x] ∧ LenV K x H n ∧ Q (.int n) H) ∨ ∃ (a : Addr) (kvs : List (Key × V)), xs = [.ref a] ∧ Rd H a (.dK kvs) ∧ Q (.int kvs.length) H
theorem cr_lenD : CallR X (.builtin "len") (fun xs H Q => ∃ (a : Addr) (kvs : List (Key × V)), xs = [.ref a] ∧ Rd H a (.dK kvs) ∧ Q (.int kvs.length) H) := by
  intro pins s σ H xs us Q I r h
  obtain ⟨a, kvs, rfl, hd, q⟩ := h
  obtain ⟨u, rfl, ru⟩ := vals1 r
  cases (show u = Value.ref a from ru)
  exact d_len I hd fun t s' I' => ⟨.int kvs.length, H, I', ⟨t, rfl⟩, q⟩
theorem cr_len2 : CallR X (.builtin "len") (rLen2 X.K) := call_len.or cr_lenD
theorem ok_len (hK : X.K = c.K) : BltOk c (rLen2 X.K) lenD := by
  intro Hf H σ l ds d vs Q R r e q
  unfold lenD at e
  by_cases hd : ∃ ks es, ds = [.dK ks es]
  · obtain ⟨ks, es, rfl⟩ := hd
    have e : (if ks.length = es.length then some (D.int (ks.length : Nat)) else none) = some d := e
    split at e
    · rename_i hz
      cases e
      obtain ⟨v, rfl, a, od, us, rfl, h, hl, t⟩ := rvals1 r
      exact .inr ⟨a, _, rfl, .inr ⟨od, R.sub _ _ h⟩, by rw [List.length_zip, ← hl, Nat.min_self]; exact q.flat R rfl⟩
    · cases e
  refine .inl ?_
  split at e
  · rename_i y
    split at e
    · rename_i hz
      cases e
      obtain ⟨v, rfl, r1⟩ := rvals1 r
      cases r1
      exact ⟨_, _, rfl, ⟨by rw [← szL_eq]; exact hz, rfl⟩, q.flat R rfl⟩
    · cases e
  · cases e
    obtain ⟨v, rfl, a, vs, rfl, h, t⟩ := rvals1 r
    exact ⟨_, _, rfl, .inr ⟨vs, by rw [hK]; exact sameT R.sub h, rfl⟩, q.flat R (by rw [t.length]; rfl)⟩
  · cases e
    obtain ⟨v, rfl, a, vs, rfl, h, t⟩ := rvals1 r
    exact ⟨_, _, rfl, .inl ⟨vs, SqL.of (R.sub _ _ h), rfl⟩, q.flat R (by rw [t.length]; rfl)⟩
  · cases e
    rename_i ns
    obtain ⟨v, rfl, a, rfl, h⟩ := rvals1 r
    exact ⟨_, _, rfl, .inl ⟨ns.map V.int, by rw [hK]; exact R.sub.seq h, rfl⟩, q.flat R (by rw [List.length_map]; rfl)⟩
  · exact absurd ⟨_, _, rfl⟩ hd
  · cases e
def absD : List D → Option D
  | [.int i] => some (.int (if i < 0 then -i else i))
  | _ => none
theorem ok_abs : BltOk c (fun xs H Q => ∃ i, xs = [V.int i] ∧ Q (V.int (if i < 0 then -i else i)) H) absD := by
  intro Hf H σ l ds d vs Q R r e q
  unfold absD at e
  split at e
  · cases e
    obtain ⟨v, rfl, r1⟩ := rvals1 r
    cases r1
    exact ⟨_, rfl, q.flat R rfl⟩
  · cases e
def maxD : List D → Option D
  | [.int i, .int j] => some (.int (if j > i then j else i))
  | _ => none
def minD : List D → Option D
  | [.int i, .int j] => some (.int (if j < i then j else i))
  | _ => none
theorem ok_max : BltOk c (fun xs H Q => ∃ i j, xs = [V.int i, V.int j] ∧ Q (V.int (if j > i then j else i)) H) maxD := by
  intro Hf H σ l ds d vs Q R r e q
  unfold maxD at e
  split at e
  · cases e
    obtain ⟨v, w, rfl, r1, r2⟩ := rvals2 r
    cases r1
    cases r2
    exact ⟨_, _, rfl, q.flat R rfl⟩
  · cases e
theorem ok_min : BltOk c (fun xs H Q => ∃ i j, xs = [V.int i, V.int j] ∧ Q (V.int (if j < i then j else i)) H) minD := by
  intro Hf H σ l ds d vs Q R r e q
  unfold minD at e
  split at e
  · cases e
    obtain ⟨v, w, rfl, r1, r2⟩ := rvals2 r
    cases r1
    cases r2
    exact ⟨_, _, rfl, q.flat R rfl⟩
  · cases e
def intD : List D → Option D
  | [.int i] => some (.int i)
  | [.bl b] => some (.int (if b = true then 1 else 0))
  | _ => none
theorem ok_int : BltOk c (fun xs H Q => (∃ i, xs = [V.int i] ∧ Q (V.int i) H) ∨ ∃ k, xs = [V.bl k] ∧ Q (V.int (if k = true then 1 else 0)) H) intD := by
  intro Hf H σ l ds d vs Q R r e q
  unfold intD at e
  split at e
  · cases e
    obtain ⟨v, rfl, r1⟩ := rvals1 r
    cases r1
    exact .inl ⟨_, rfl, q.flat R rfl⟩
  · cases e
    obtain ⟨v, rfl, r1⟩ := rvals1 r
    cases r1
    exact .inr ⟨_, rfl, q.flat R rfl⟩
  · cases e
def tupD : List D → Option D
  | [.lst ds] => some (.tup ds)
  | [.tup ds] => some (.tup ds)
  | _ => none
theorem ok_tup (hK : X.K = c.K) : BltOk c (fun xs H Q => ∃ p ys, xs = [V.ref p] ∧ ((SqL X.K H p ys ∧ ∀ l, H l = none → Q (V.ref l) (upd H l (.tup ys))) ∨ (SqT X.K H p ys ∧ Q (V.ref p) H))) tupD := by
  intro Hf H σ l ds d vs Q R r e q
  unfold tupD at e
  split at e
  · cases e
    obtain ⟨v, rfl, a, vs, rfl, h, t⟩ := rvals1 r
    exact ⟨a, vs, rfl, .inl ⟨SqL.of (R.sub _ _ h), fun p n => q.new R n (RVal.tupNew (R.free n) t)⟩⟩
  · cases e
    obtain ⟨v, rfl, a, vs, rfl, h, t⟩ := rvals1 r
    exact ⟨a, vs, rfl, .inr ⟨by rw [hK]; exact sameT R.sub h, q.flat R ⟨a, vs, rfl, h, t⟩⟩⟩
  · cases e
def blsD : List D → Option (List Bool)
  | [] => some []
  | .bl b :: r => (blsD r).map (b :: ·)
  | _ => none
theorem blsD_get {cn : Cn} {ad : Ad} {H : Hp} : ∀ {ds : List D} {bs : List Bool} {vs : List V}, blsD ds = some bs → RVals cn ad H ds vs → vs = bs.map V.bl
  | [], bs, vs, h, r => by
    cases h
    cases (show _ = [] from r)
    rfl
  | .bl b :: ds, bs, vs, h, r => by
    have h' : (blsD ds).map (b :: ·) = some bs := h
    rw [Option.map_eq_some_iff] at h'
    obtain ⟨bs', e1, e2⟩ := h'
    subst e2
    obtain ⟨v, r', e, q, t⟩ := r
    subst e
    cases q
    rw [blsD_get e1 t]
    rfl
def allD : List D → Option D
  | [.lst ds] => (blsD ds).map fun bs => .bl (bs.all fun b => b)
  | _ => none
theorem ok_all (hK : X.K = c.K) : BltOk c (rAll X.K) allD := by
  intro Hf H σ l ds d vs Q R r e q
  unfold allD at e
  split at e
  · rw [Option.map_eq_some_iff] at e
    obtain ⟨bs, e1, e2⟩ := e
    subst e2
    obtain ⟨v, rfl, a, vs, rfl, h, t⟩ := rvals1 r
    have := blsD_get e1 t
    subst this
    exact ⟨a, bs, rfl, SqL.of (R.sub _ _ h), q.flat R rfl⟩
  · cases e
end

section
variable {X : Cx} {c : Ac} {W : WX} {x : Str} {pos : Pos}
theorem de_gint {i : Int} (hg : Gl X x) (hm : ∃ t, X.mg x = some (.int i t)) (hd : (x == ("__debug__" : Str)) = false := by decide) : DE X c W (.Name x pos) (sC (.int i)) := by
  obtain ⟨t, e⟩ := hm
  exact de_flat (pe_glob hg e (v := .int i) ⟨t, rfl⟩ hd) fun _ => rfl
end

def fmtD : D → Option D
  | .str y => if y.length ≤ szL then some (.str y) else none
  | .int i => if i.natAbs.log2 < 1920 then some (.str (toString i)) else none
  | _ => none
def sJoinP : List (LSt → Res D) → Str → LSt → Res D
  | [], acc, l => .ok (.str acc) l
  | f :: fs, acc, l => (f l).bind fun d l => match d with
    | .str y => if (acc ++ y).length ≤ szL then sJoinP fs (acc ++ y) l else .bad
    | _ => .bad
inductive DJ (X : Cx) (c : Ac) (W : WX) : List Expr → List (LSt → Res D) → Prop where
  | nil : DJ X c W [] []
  | cons {e : Expr} {f : LSt → Res D} {es : List Expr} {fs : List (LSt → Res D)} (h : DE X c W e f) (r : DJ X c W es fs) : DJ X c W (e :: es) (f :: fs)
section
variable {X : Cx} {c : Ac} {W : WX} {e : Expr} {pos : Pos} {fe : LSt → Res D}
theorem de_fmt (he : DE X c W e fe) : DE X c W (.FormattedValue e (-1) none pos) (sUn fmtD fe) :=
  ⟨(pe_fmt he.pe).imp' fun _ _ _ ⟨Hf, l, R, h⟩ => run_bind PD.mo R h fun d l1 v H1 Hf1 R1 s1 r1 h1 => by
    cases d with
    | str y =>
      have h1 : wpR (opt (if y.length ≤ szL then some (.str y) else none) l1) (PD c _ _ Hf1) (PX c W _ Hf1) := h1
      split at h1
      · rename_i hz
        exact .inl ⟨y, r1, by rw [← szL_eq]; exact hz, h1 _ H1 Hf1 R1 (Same.refl _) rfl⟩
      · exact h1.elim
    | int i =>
      have h1 : wpR (opt (if i.natAbs.log2 < 1920 then some (.str (toString i)) else none) l1) (PD c _ _ Hf1) (PX c W _ Hf1) := h1
      split at h1
      · rename_i hz
        exact .inr ⟨i, r1, hz, h1 _ H1 Hf1 R1 (Same.refl _) rfl⟩
      · exact h1.elim
    | _ => exact h1.elim⟩
theorem dj_pj {es : List Expr} {fs : List (LSt → Res D)} (h : DJ X c W es fs) : PJ X es (fs.map (tD c W)) := by
  induction h with
  | nil => exact .nil
  | cons h r ih => exact .cons h.pe ih
theorem join_run {Q : VK} {σ : L2.St} : ∀ (fs : List (LSt → Res D)) (acc : Str) (H Hf : Hp) (l : LSt), REnv c Hf σ H l → wpR (sJoinP fs acc l) (PD c σ Q Hf) (PX c W σ Hf) → tJs (fs.map (tD c W)) acc σ H fun out H1 => Q (.str out) H1
  | [], acc, H, Hf, l, R, h => h _ H Hf R (Same.refl _) rfl
  | f :: fs, acc, H, Hf, l, R, h => run_bind PD.mo R h fun d l1 v H1 Hf1 R1 s1 r1 h1 => by
    cases d with
    | str y =>
      have h1 : wpR (if (acc ++ y).length ≤ szL then sJoinP fs (acc ++ y) l1 else .bad) (PD c σ Q Hf1) (PX c W σ Hf1) := h1
      split at h1
      · rename_i hz
        exact ⟨y, r1, by rw [← szL_eq]; exact hz, join_run fs _ H1 Hf1 l1 R1 h1⟩
      · exact h1.elim
    | _ => exact h1.elim
theorem de_joined {v1 v2 : Expr} {rest : List Expr} {fs : List (LSt → Res D)} (h : DJ X c W (v1 :: v2 :: rest) fs) : DE X c W (.JoinedStr (v1 :: v2 :: rest) pos) (sJoinP fs Str.empty) :=
  ⟨(pe_joined (dj_pj h)).imp' fun _ _ _ ⟨Hf, l, R, h⟩ => join_run fs _ _ Hf l R h⟩
theorem de_joined1 (he : DE X c W e fe) : DE X c W (.JoinedStr [e] pos) fe := ⟨pe_joined1 he.pe⟩
end

def kindD : D → Option Nat
  | .int _ => some 0
  | .bl _ => some 1
  | .str _ => some 2
  | .tup _ => some 3
  | .lst _ => some 4
  | .dK _ _ => some 5
  | .dT _ _ => some 5
  | .non => some 6
  | _ => none
def isiB (n t : Nat) : Bool := n == t || (n == 1 && t == 0)
def isiD (t : Nat) (d : D) : Option D := (kindD d).map fun n => .bl (isiB n t)
theorem kit_tab : ∀ n ∈ [0, 1, 2, 3, 4, 5, 6], ∀ t ∈ [0, 1, 2, 3, 4, 5], PySem.W.kitOne [] (.type (kindN n)) (.type (kindN t)) = some (isiB n t) := by decide +kernel
theorem kit_any (K : PySem.W.Frag) (n t : String) : PySem.W.kitOne K (.type n) (.type t) = PySem.W.kitOne [] (.type n) (.type t) := rfl
theorem kind_lt {d : D} {n : Nat} (h : kindD d = some n) : n ∈ [0, 1, 2, 3, 4, 5, 6] := by
  cases d <;> simp only [kindD, reduceCtorEq, Option.some.injEq] at h <;> subst h <;> simp
def TyY (K : PySem.W.Frag) (H : Hp) (x : V) (t : Value) : Prop := TyX K H x t ∨ ∃ a od kvs, x = .ref a ∧ H a = some (.frz od (.dT kvs)) ∧ t = .type "dict"
def rIsi2 (K : PySem.W.Frag) : List V → Hp → VK → Prop := fun xs H Q => ∃ (x c : V) (t u : Value) (b : Bool), xs = [x, c] ∧ ClsV c u ∧ TyY K H x t ∧ PySem.W.kitOne K t u = some b ∧ Q (.bl b) H
theorem call_isi2 {X : Cx} : CallR X (.builtin "isinstance") (rIsi2 X.K) := by
  intro pins s σ H xs us Q I r ⟨x, c, t, w, b, hxs, k, ty, e, q⟩
  rcases ty with ty | ⟨a, od, kvs, hx, ha, ht⟩
  · exact call_isi pins s σ H xs us Q I r ⟨x, c, t, w, b, hxs, k, ty, e, q⟩
  · subst hxs hx ht
    obtain ⟨u1, u2, rfl, r1, r2⟩ := vals2 r
    cases k.eq r2
    obtain rfl : u1 = Value.ref a := r1
    have z : ObjOk X.prog X.w H s.heap a (.frz od (.dT kvs)) := I.hok a _ ha
    obtain ⟨_, _, _, vs, _, o, es, ep, h1, h2, _⟩ := z
    exact PySem.W.kia_one PySem.W.kitx_dict I.kIn ⟨o, h1, h2.1⟩ e (fun z => nomatch z) fun tk => ⟨.bl b, H, I.tok tk, rfl, q⟩
theorem kind_ty {cn : Cn} {ad : Ad} {Hf H : Hp} {d : D} {v : V} {n : Nat} (h : kindD d = some n) (s : Same Hf H) (r : RVal cn ad Hf d v) : TyY cn.K H v (.type (kindN n)) := by
  cases d <;> simp only [kindD, reduceCtorEq, Option.some.injEq] at h <;> subst h
  · cases r
    exact .inl (.base .non)
  · cases r
    exact .inl (.base (.bl _))
  · cases r
    exact .inl (.base (.int _))
  · cases r
    exact .inl (.base (.str _))
  · obtain ⟨a, vs, rfl, h, t⟩ := r
    rcases sameT s h with (h | ⟨o, h⟩) | ⟨o, its, m, h1, h2, _⟩
    · exact .inl (.base (.tup h))
    · exact .inl (.fTuple h)
    · exact .inl (.kTuple h1 h2)
  · obtain ⟨a, vs, rfl, h, t⟩ := r
    exact .inl (.base (.lst (s _ _ h)))
  · obtain ⟨a, od, vs, rfl, h, _⟩ := r
    exact .inl (.fDict (s _ _ h))
  · obtain ⟨a, od, vs, rfl, h, _⟩ := r
    exact .inr ⟨a, od, _, rfl, s _ _ h, rfl⟩
section
variable {X : Cx} {c : Ac} {W : WX} {e : Expr} {fe : LSt → Res D} {p pt pos : Pos} {x y : Str}
end
end Dx

namespace Dx
open PySem PySem.Spec PyProof.Rows L2

def keyD : D → Option Key
  | .int i => some (.inl i)
  | .str x => some (.inr x)
  | _ => none
def memK : List Key → Key → Bool
  | [], _ => false
  | k :: ks, j => decide (k = j) || memK ks j
section
variable {cn : Cn} {ad : Ad} {H : Hp}
end
section
variable {X : Cx} {c : Ac} {W : WX} {x : Str} {np apos cpos pos pos' : Pos} {i : Nat} {ek ez e : Expr} {fk fz fe : LSt → Res D}
end

section
variable {X : Cx} {c : Ac} {W : WX} {i j l : Nat} {x y z : Str} {a b : Expr} {px py pz pt pos pd : Pos} {kt k2 pt2} {fa : LSt → Res (List D)}
end

section
variable {X : Cx}
end
section
variable {X : Cx} {c : Ac} {W : WX} {e : Expr} {fe : LSt → Res D} {p apos cpos pos : Pos}
end
end Dx

namespace Dx
open PySem PySem.Spec PyProof.Rows L2

def nth3 : Nat → Int × Int × Int → Int
  | 0, t => t.1
  | 1, t => t.2.1
  | _, t => t.2.2
def set3 : Nat → Int × Int × Int → Int → Int × Int × Int
  | 0, t, v => (v, t.2.1, t.2.2)
  | 1, t, v => (t.1, v, t.2.2)
  | _, t, v => (t.1, t.2.1, v)
def l3 (t : Int × Int × Int) : List V := [.int t.1, .int t.2.1, .int t.2.2]
theorem l3_get (t : Int × Int × Int) {k : Nat} (h : k < 3) : atI (l3 t) (k : Int) = some (.int (nth3 k t)) := by
  match k, h with
  | 0, _ => rfl
  | 1, _ => rfl
  | 2, _ => rfl
theorem l3_set (t : Int × Int × Int) (v : Int) {k : Nat} (h : k < 3) : (l3 t).set k (.int v) = l3 (set3 k t v) := by
  match k, h with
  | 0, _ => rfl
  | 1, _ => rfl
  | 2, _ => rfl
def sDie (i k : Nat) : LSt → Res D := fun l => match l.sl[i]? with
  | some (.v .dice) => (match l.g.d with
    | some t => .ok (.int (nth3 k t)) l
    | none => .bad)
  | _ => .bad
def LSt.withD (l : LSt) (t : Option (Int × Int × Int)) : LSt := { l with g := { l.g with d := t } }
def zDie (i k : Nat) (fe : LSt → Res D) : LSt → Fl := fun l => (fe l).toFl fun d l => match d with
  | .int v => (match l.sl[i]? with
    | some (.v .dice) => (match l.g.d with
      | some t => .nx (l.withD (some (set3 k t v)))
      | none => .bad)
    | _ => .bad)
  | _ => .bad
theorem REnv.setd {c : Ac} {Hf H : Hp} {σ : L2.St} {l : LSt} (R : REnv c Hf σ H l) {t : Int × Int × Int} (t' : Int × Int × Int) (h : l.g.d = some t) : REnv c Hf σ (upd H c.ad.d (.lst (l3 t'))) (l.withD (some t')) := by
  have hs : l.g.sh.1 = true := by
    show l.g.d.isSome = true
    rw [h]
    rfl
  have hne : ∀ {a : Addr}, ¬ isD c.toCn l.g c.ad a → a ≠ c.ad.d := fun {a} nd z => nd (.inl ⟨hs, z⟩)
  have sh : (l.withD (some t')).g.sh = l.g.sh := by
    show (true, l.g.ob.isSome) = (l.g.d.isSome, l.g.ob.isSome)
    rw [h]
    rfl
  have isd : ∀ a, isD c.toCn (l.withD (some t')).g c.ad a ↔ isD c.toCn l.g c.ad a := fun a => isD_iff sh
  obtain ⟨d1, d2⟩ := R.dice.dc t.1 t.2.1 t.2.2 h
  have tbk : TbOk c.toCn Hf (upd H c.ad.d (.lst (l3 t'))) := R.dice.tb.keep (Same.refl _) (fun a hT => upd_ne (R.dice.tb.ne hT d2 fun ps z => by cases z)) fun _ _ => rfl
  refine ⟨R.len, fun j s hj => ?_, R.dis, fun b u hb => ?_, R.base, fun b u hb => ?_, ⟨fun x y z q => ?_, fun k fs q => ?_, tbk, R.dice.tp.up⟩, sh.trans R.hgs⟩
  · obtain ⟨x, e, q⟩ := R.slot j s hj
    refine ⟨x, e, ?_⟩
    cases s with
    | un => exact True.intro
    | slf => exact q
    | fn => exact q
    | er _ _ => exact q
    | v d => exact q
    | own co' =>
      obtain ⟨a', o', qa, ha', r', n', n0', nd'⟩ := q
      exact ⟨a', o', qa, by rw [upd_ne (hne nd')]; exact ha', r', n', n0', fun z => nd' ((isd a').mp z)⟩
  · have e1 : b ≠ c.ad.d := fun z => by
      rw [z, d1] at hb
      cases hb
    rw [upd_ne e1]
    exact R.sub b u hb
  · obtain ⟨f1, f2, f3⟩ := R.frame b u hb
    exact ⟨by rw [upd_ne (hne f3)]; exact f1, f2, fun z => f3 ((isd b).mp z)⟩
  · cases q
    exact ⟨d1, upd_same⟩
  · obtain ⟨q1, q2, q3, q4, us, q5, q6⟩ := R.dice.obj k fs q
    have e1 : c.ad.oa ≠ c.ad.d := fun w => by
      rcases q5 with ⟨h, _⟩ | ⟨h, _⟩
      · rw [w, d2] at h
        cases h
      · rw [w, d2] at h
        unfold SlX.SlO at h
        cases h
    have e2 : c.ad.od ≠ c.ad.d := fun w => by
      rcases q4 with h | h
      · rw [w, d2] at h
        cases h
      · rw [w, d2] at h
        cases h
    refine ⟨q1, q2, q3, by rw [upd_ne e2]; exact q4, us, ?_, q6⟩
    rcases q5 with ⟨h, e⟩ | ⟨h, e⟩
    · exact .inl ⟨by rw [upd_ne e1]; exact h, e⟩
    · exact .inr ⟨by rw [upd_ne e1]; exact h, by rw [upd_ne e2]; exact e⟩
section
variable {X : Cx} {c : Ac} {W : WX} {x : Str} {np p pos pos' : Pos} {i k j0 : Nat} {e : Expr} {fe : LSt → Res D}
theorem die_run {σ : L2.St} {H : Hp} {Q : VK} (hk : k < 3) (hK : X.K = c.K) (h : tD c W (sDie i k) σ H Q) : tOp (rIxL X.K) (tVar i) (tC (.int (k : Int))) σ H Q := by
  obtain ⟨Hf, l, R, h⟩ := h
  unfold sDie at h
  cases e1 : l.sl[i]? with
  | none =>
    rw [e1] at h
    exact h.elim
  | some s =>
    rw [e1] at h
    cases s with
    | v d =>
      cases d with
      | dice =>
        have h : wpR (match l.g.d with
          | some t => .ok (.int (nth3 k t)) l
          | none => .bad) (PD c σ Q Hf) (PX c W σ Hf) := h
        cases e2 : l.g.d with
        | none =>
          rw [e2] at h
          exact h.elim
        | some t =>
          rw [e2] at h
          obtain ⟨v, ev, rv⟩ := R.val e1
          obtain rfl : v = .ref c.ad.d := rv
          refine ⟨_, ev, c.ad.d, l3 t, (k : Int), .int (nth3 k t), rfl, rfl, ?_, l3_get t hk, h _ H Hf R (Same.refl _) rfl⟩
          exact SqL.of (R.dice.dc t.1 t.2.1 t.2.2 e2).2
      | _ => exact h.elim
    | _ => exact h.elim
theorem de_die (hk : k < 3) (hK : X.K = c.K) (pv : PE X (.Name x np) (tVar i)) (hs : PlainIx (.Constant (.int (k : Int)) j0 p)) : DE X c W (.Subscript (.Name x np) (.Constant (.int (k : Int)) j0 p) pos) (sDie i k) :=
  ⟨(pe_ix ix_list pv pe_int hs).imp' fun _ _ _ h => die_run hk hK h⟩
theorem ds_die (hk : k < 3) (hK : X.K = c.K) (pv : PE X (.Name x np) (tVar i)) (he : DE X c W e fe)
    (ha : ∀ v, assign (.Subscript (.Name x np) (.Constant (.int (k : Int)) j0 p) pos') X.env v = (do
      let ov ← holding [v] (eval (.Name x np) X.env)
      let iv ← holding [v, ov] (eval (.Constant (.int (k : Int)) j0 p) X.env)
      standAt pos'
      holding [v, ov, iv] (setItem ov iv v)
      release [v, ov, iv] []) := by intros; rfl)
    (hs : swapsWithSole [.Subscript (.Name x np) (.Constant (.int (k : Int)) j0 p) pos'] e pos.line X.env = pure false := by rfl) (hw : swappedStores [.Subscript (.Name x np) (.Constant (.int (k : Int)) j0 p) pos'] e X.env = pure none := by rfl)
    (h1 : (assignEach [.Subscript (.Name x np) (.Constant (.int (k : Int)) j0 p) pos'] X.env).map (·.2) = [assign (.Subscript (.Name x np) (.Constant (.int (k : Int)) j0 p) pos') X.env] := by rfl) :
    DS X c W (.Assign [.Subscript (.Name x np) (.Constant (.int (k : Int)) j0 p) pos'] e pos) (zDie i k fe) :=
  ⟨(ps_asg he.pe (pg_sub pv pe_int set_list) hs hw h1).imp' fun D σ H ⟨Hf, l, R, h⟩ => to_bind R h fun d l1 v H1 Hf1 R1 s1 r1 h1 => by
    cases d with
    | int n =>
      have h1 : wpF c W D Hf1 (match l1.sl[i]? with
        | some (.v .dice) => (match l1.g.d with
          | some t => .nx (l1.withD (some (set3 k t n)))
          | none => .bad)
        | _ => .bad) := h1
      cases e1 : l1.sl[i]? with
      | none =>
        rw [e1] at h1
        exact h1.elim
      | some s =>
        rw [e1] at h1
        cases s with
        | v d =>
          cases d with
          | dice =>
            have h1 : wpF c W D Hf1 (match l1.g.d with
              | some t => .nx (l1.withD (some (set3 k t n)))
              | none => .bad) := h1
            cases e2 : l1.g.d with
            | none =>
              rw [e2] at h1
              exact h1.elim
            | some t =>
              rw [e2] at h1
              obtain ⟨w, ev, rv⟩ := R1.val e1
              obtain rfl : w = .ref c.ad.d := rv
              obtain rfl : v = .int n := r1
              have hd := (R1.dice.dc t.1 t.2.1 t.2.2 e2).2
              refine ⟨_, ev, c.ad.d, l3 t, (k : Int), k, rfl, rfl, hd, ?_, ?_⟩
              · unfold ixN
                rw [if_pos (by omega), if_pos (by show (k : Int) < ((3 : Nat) : Int); omega)]
                rfl
              · rw [l3_set t n hk]
                exact h1 σ _ Hf1 (R1.setd (set3 k t n) e2) (Same.refl _)
          | _ => exact h1.elim
        | _ => exact h1.elim
    | _ => exact h1.elim⟩
end

mutual
def D.nod : D → Bool
  | .dice => false
  | .tup ds => D.nods ds
  | .lst ds => D.nods ds
  | .dK _ ds => D.nods ds
  | .dT _ ds => D.nods ds
  | .ins _ ds => D.nods ds
  | .non => true
  | .bl _ => true
  | .int _ => true
  | .str _ => true
  | .scr _ => true
  | .ty _ => true
  | .glo _ => true
  | .rng _ _ => true
  | .gtp _ => true
def D.nods : List D → Bool
  | [] => true
  | d :: ds => D.nod d && D.nods ds
end
mutual
theorem RVal.ndc {cn : Cn} {ad ad' : Ad} {H : Hp} : ∀ (d : D) (v : V), d.nod = true → RVal cn ad H d v → RVal cn ad' H d v
  | .non, _, _, q => q
  | .bl _, _, _, q => q
  | .int _, _, _, q => q
  | .str _, _, _, q => q
  | .tup ds, _, h, ⟨a, vs, q, h1, r⟩ => ⟨a, vs, q, h1, RVals.ndc ds vs (by simpa [D.nod] using h) r⟩
  | .lst ds, _, h, ⟨a, vs, q, h1, r⟩ => ⟨a, vs, q, h1, RVals.ndc ds vs (by simpa [D.nod] using h) r⟩
  | .scr _, _, _, q => q
  | .dK ks ds, _, h, ⟨a, od, vs, q, h1, l, r⟩ => ⟨a, od, vs, q, h1, l, RVals.ndc ds vs (by simpa [D.nod] using h) r⟩
  | .dT ks ds, _, h, ⟨a, od, vs, q, h1, l, r⟩ => ⟨a, od, vs, q, h1, l, RVals.ndc ds vs (by simpa [D.nod] using h) r⟩
  | .ins n fs, _, h, ⟨a, dx, vs, q, h1, h2, r⟩ => ⟨a, dx, vs, q, h1, h2, RVals.ndc fs vs (by simpa [D.nod] using h) r⟩
  | .ty _, _, _, q => q
  | .glo _, _, _, q => q
  | .dice, _, h, _ => by simp [D.nod] at h
  | .rng _ _, _, _, q => q
  | .gtp _, _, _, q => q
theorem RVals.ndc {cn : Cn} {ad ad' : Ad} {H : Hp} : ∀ (ds : List D) (vs : List V), D.nods ds = true → RVals cn ad H ds vs → RVals cn ad' H ds vs
  | [], _, _, q => q
  | d :: ds, _, h, ⟨v, r, q, h1, t⟩ => ⟨v, r, q, RVal.ndc d v (by simp [D.nods] at h; exact h.1) h1, RVals.ndc ds r (by simp [D.nods] at h; exact h.2) t⟩
end
def lendRes (i : Nat) (l : LSt) : FR → Res D
  | .ok e g => match g.d with
    | some (x, y, z) => if e.d.nod = true then .ok e.d ⟨l.sl.set i (.own (.lst [.int x, .int y, .int z])), { g with d := none }⟩ else .bad
    | none => .bad
  | _ => .bad
def dice3 : Slot → Option (Int × Int × Int)
  | .own (.lst [.int x, .int y, .int z]) => some (x, y, z)
  | _ => none
theorem dice3_eq {s : Slot} {x y z : Int} (h : dice3 s = some (x, y, z)) : s = .own (.lst [.int x, .int y, .int z]) := by
  unfold dice3 at h
  split at h
  · cases h
    rfl
  · cases h
def sLend (i : Nat) (m : Fm) (a : LSt → Res (List D)) : LSt → Res D := fun l => match l.sl[i]? with
  | some (.own _) => (a l).bind fun ds l => (match (l.sl[i]?).bind dice3, l.g.d, l.g.ob with
    | some (x, y, z), none, none => if D.nods ds = true then lendRes i l (m (.dice :: ds) ⟨some (x, y, z), none⟩) else .bad
    | _, _, _ => .bad)
  | _ => .bad
theorem REnv.lent {c : Ac} {Hf H Hf' H' : Hp} {σ : L2.St} {l : LSt} {i : Nat} {co : CO} {a : Addr} {t : Int × Int × Int} {x y z : Int} {g' : G} (R : REnv c Hf σ H l) (hi : l.sl[i]? = some (.own co)) (hd : l.g.d = none) (ho : l.g.ob = none) (ea : σ[i]? = some (some (.ref a)))
    (A : Aft c.toCn { c.ad with d := a } ⟨some t, none⟩ g' H Hf H' Hf') (e : g'.d = some (x, y, z)) : REnv c Hf' σ H' ⟨l.sl.set i (.own (.lst [.int x, .int y, .int z])), { g' with d := none }⟩ := by
  obtain ⟨a0, o0, e0, ha0, _, n0, h0, nd0⟩ := R.own hi
  rw [ea] at e0
  cases e0
  have hil : i < l.sl.length := (List.getElem?_eq_some_iff.mp hi).1
  have sh2 : g'.ob.isSome = l.g.ob.isSome := by
    rw [ho]
    exact congrArg Prod.snd A.hgs
  have sh : ({ g' with d := none } : G).sh = l.g.sh := by
    show (false, g'.ob.isSome) = (l.g.d.isSome, l.g.ob.isSome)
    rw [hd, sh2]
    rfl
  have isd : ∀ b, isD c.toCn ({ g' with d := none } : G) c.ad b ↔ isD c.toCn l.g c.ad b := fun b => isD_iff sh
  have isd1 : ∀ {b}, ¬ isD c.toCn l.g c.ad b → b ≠ a → ¬ isD c.toCn (⟨some t, none⟩ : G) { c.ad with d := a } b := fun {b} h ne q => by
    rcases q with ⟨_, q⟩ | ⟨q, _⟩ | q
    · exact ne q
    · cases q
    · exact h (.inr (.inr q))
  obtain ⟨d1, d2⟩ := A.dice.dc x y z e
  refine ⟨by rw [List.length_set]; exact R.len, fun j s hj => ?_, fun j k s t b hj hk os ot ej ek => ?_, A.sub, R.base.trans A.grow, fun b u hb => ?_, ⟨fun x y z q => (nomatch q), fun k fs q => ?_, A.dice.tb, A.dice.tp⟩, sh.trans R.hgs⟩
  · have hj' : (l.sl.set i (.own (.lst [.int x, .int y, .int z])))[j]? = some s := hj
    by_cases hji : j = i
    · subst hji
      rw [List.getElem?_set_self hil] at hj'
      cases hj'
      exact ⟨_, ea, a, _, rfl, d2, ⟨_, rfl, .cons rfl (.cons rfl (.cons rfl .nil))⟩, d1, h0, fun q => nd0 ((isd a).mp q)⟩
    · rw [List.getElem?_set_ne (Ne.symm hji)] at hj'
      obtain ⟨x', e', q⟩ := R.slot j s hj'
      refine ⟨x', e', ?_⟩
      cases s with
      | un => exact True.intro
      | slf => exact q
      | fn => exact q
      | er _ _ => exact q.mono A.grow
      | v d =>
        obtain ⟨v, qv, rv⟩ := q
        exact ⟨v, qv, rv.mono A.grow⟩
      | own co' =>
        obtain ⟨a', o', qa, ha', r', n', n0', nd'⟩ := q
        have ne : a' ≠ a := fun w => hji (R.dis j i _ _ a hj' hi rfl rfl (by rw [e', qa, w]) ea)
        obtain ⟨e1, e2⟩ := A.frame a' o' ha' n' (isd1 nd' ne)
        exact ⟨a', o', qa, e1, r'.mono A.grow, e2, n0', fun w => nd' ((isd a').mp w)⟩
  · have back : ∀ {m : Nat} {u : Slot}, (l.sl.set i (.own (.lst [.int x, .int y, .int z])))[m]? = some u → isOwn u = true → ∃ u', l.sl[m]? = some u' ∧ isOwn u' = true := fun {m u} hm ou => by
      by_cases w : m = i
      · subst w
        exact ⟨_, hi, rfl⟩
      · rw [List.getElem?_set_ne (Ne.symm w)] at hm
        exact ⟨u, hm, ou⟩
    obtain ⟨s', hs', os'⟩ := back hj os
    obtain ⟨t', ht', ot'⟩ := back hk ot
    exact R.dis j k s' t' b hs' ht' os' ot' ej ek
  · obtain ⟨e1, e2, e3⟩ := R.frame b u hb
    have ne : b ≠ a := fun w => by
      rw [w, h0] at hb
      cases hb
    obtain ⟨e4, e5⟩ := A.frame b u e1 e2 (isd1 e3 ne)
    exact ⟨e4, e5, fun w => e3 ((isd b).mp w)⟩
  · exfalso
    have q' : g'.ob = some (k, fs) := q
    rw [q', ho] at sh2
    cases sh2
section
variable {X : Cx} {c : Ac} {W : WX} {x xd : Str} {p pd pos : Pos} {i k : Nat} {es : List Expr} {fs : LSt → Res (List D)} {m : Fm} {f : Addr}
theorem lend_run {σ : L2.St} {H : Hp} {Q : VK} (h : tD c W (sLend i m fs) σ H Q) : tCons (tVar i) (tA c W fs) σ H fun vs H1 => spF c.toCn m vs H1 (LkP Q) (WE W σ) := by
  obtain ⟨Hf, l, R, h⟩ := h
  unfold sLend at h
  cases e1 : l.sl[i]? with
  | none =>
    rw [e1] at h
    exact h.elim
  | some s =>
    rw [e1] at h
    cases s with
    | own co0 =>
      obtain ⟨a, o0, ea, _⟩ := R.own e1
      refine ⟨.ref a, ea, run_bindA PD.mo R h fun ds l1 vs H1 Hf1 R1 s1 r1 h1 => ?_⟩
      cases e2' : (l1.sl[i]?).bind dice3 with
      | none =>
        rw [e2'] at h1
        exact h1.elim
      | some t0 =>
        obtain ⟨x, y, z⟩ := t0
        rw [e2'] at h1
        rw [Option.bind_eq_some_iff] at e2'
        obtain ⟨s2, e2, e2'⟩ := e2'
        rw [dice3_eq e2'] at e2
        cases e3 : l1.g.d with
        | some _ =>
          rw [e3] at h1
          exact h1.elim
        | none =>
          cases e4 : l1.g.ob with
          | some _ =>
            rw [e3, e4] at h1
            exact h1.elim
          | none =>
            rw [e3, e4] at h1
            have h1 : wpR (if D.nods ds = true then lendRes i l1 (m (.dice :: ds) ⟨some (x, y, z), none⟩) else .bad) (PD c σ Q Hf1) (PX c W σ Hf1) := h1
            split at h1
            · rename_i hn
              obtain ⟨a', o', ea', ha', rc, nf, n0, nd⟩ := R1.own e2
              rw [ea] at ea'
              cases ea'
              obtain ⟨us, rfl, ru⟩ := rc
              obtain ⟨u1, r1', q1, k1, u2, r2', q2, k2, u3, r3', q3, k3, q4⟩ := ru
              subst q1 q2 q3
              cases (show _ = [] from q4)
              cases k1
              cases k2
              cases k3
              refine ⟨Hf1, { c.ad with d := a }, .dice :: ds, ⟨some (x, y, z), none⟩, R1.sub, ⟨fun x' y' z' q => by cases q; exact ⟨nf, ha'⟩, fun k fs q => (nomatch q), R1.dice.tb, R1.dice.tp⟩, .cons rfl (RVals.ndc _ _ hn r1), ?_⟩
              cases em : m (.dice :: ds) ⟨some (x, y, z), none⟩ with
              | bad =>
                rw [em] at h1
                exact h1
              | ex q g =>
                rw [em] at h1
                exact h1.elim
              | ok ev g =>
                rw [em] at h1
                have h1 : wpR (match g.d with
                  | some (x, y, z) => if ev.d.nod = true then .ok ev.d ⟨l1.sl.set i (.own (.lst [.int x, .int y, .int z])), { g with d := none }⟩ else .bad
                  | none => .bad) (PD c σ Q Hf1) (PX c W σ Hf1) := h1
                cases eg : g.d with
                | none =>
                  rw [eg] at h1
                  exact h1.elim
                | some t =>
                  obtain ⟨x', y', z'⟩ := t
                  rw [eg] at h1
                  have h1 : wpR (if ev.d.nod = true then .ok ev.d ⟨l1.sl.set i (.own (.lst [.int x', .int y', .int z'])), { g with d := none }⟩ else .bad) (PD c σ Q Hf1) (PX c W σ Hf1) := h1
                  split at h1
                  · rename_i hnd
                    intro v H' Hf' A rv
                    have R2 := R1.lent e2 e3 e4 ea A eg
                    cases ev with
                    | v d => exact .inl (h1 v H' Hf' R2 A.grow (RVal.ndc _ _ hnd rv))
                    | o co =>
                      obtain ⟨b, ob, rfl, hb, rc, nb, nH, ndb⟩ := rv
                      have hb0 : c.hid b = none := by
                        cases e0 : c.hid b with
                        | none => rfl
                        | some u =>
                          have := (R1.frame b u e0).1
                          rw [nH] at this
                          cases this
                      have ndc : ¬ isD c.toCn ({ g with d := none } : G) c.ad b := fun q => by
                        rcases q with ⟨q, _⟩ | q
                        · cases q
                        · exact ndb (.inr q)
                      refine rc.lkp hb fun od => h1 _ _ _ (R2.see _ hb nb hb0 ndc ?_) (A.grow.trans (same_upd nb)) (RVal.ndc _ _ hnd (rc.val od nb))
                      intro j s hj ho e'
                      have back : ∃ u', l1.sl[j]? = some u' ∧ isOwn u' = true := by
                        by_cases w : j = i
                        · subst w
                          exact ⟨_, e2, rfl⟩
                        · rw [show (⟨l1.sl.set i (.own (.lst [.int x', .int y', .int z'])), { g with d := none }⟩ : LSt).sl = l1.sl.set i (.own (.lst [.int x', .int y', .int z'])) from rfl, List.getElem?_set_ne (Ne.symm w)] at hj
                          exact ⟨s, hj, ho⟩
                      obtain ⟨u', hu, ou⟩ := back
                      cases u' with
                      | own co' =>
                        obtain ⟨a', o', e2', ha'', _⟩ := R1.own hu
                        rw [e2'] at e'
                        cases e'
                        rw [nH] at ha''
                        cases ha''
                      | _ => cases ou
                  · exact h1.elim
            · exact h1.elim
    | _ => exact h.elim
theorem de_lend (F : FnR X.prog X.w X.K X.mg X.base (L2.CX X.prog X.w) k f (spF c.toCn m)) (hr : Room k X.A) (tk : Takes X W) (hg : Gl X x) (hm : X.mg x = some (.ref f)) (hk : PySem.W.keepIn X.K (.ref f) = true)
    (pv : PE X (.Name xd pd) (tVar i)) (ha : DA X c W es fs) (hdb : (x == ("__debug__" : Str)) = false := by decide) (he : starEach (.Name xd pd :: es) X.env = (false, eval (.Name xd pd) X.env) :: starEach es X.env := by rfl) (hpl : (backTo pos (starEach es X.env)).any (·.1) = false := by rfl) :
    DE X c W (.Call (.Name x p) (.Name xd pd :: es) [] pos) (sLend i m fs) :=
  ⟨(pe_fz (pe_callR F hr (fun σ => passAt tk σ) hg hm hk (pa_cons pv ha.pa he) hdb he hpl)).imp' fun σ H Q h => lend_run h⟩
end

section
variable {X : Cx} {c : Ac} {W : WX} {elt tg iter : Expr} {ifs : List Expr} {scope : Scope} {own : List (Str × Nat)} {pos spos py : Pos} {f : LSt → Res (List D)} {t : Tgt} {tt : LSt → Res Bool} {fe : LSt → Res D} {ws : List Nat} {i : Nat} {y : Str}
theorem ds_setLc (hc : X.calm = true) (hN : X.N.Nodup) (hy : X.N[i]? = some y) (hyl : X.env.scope.names.lookup y = some .local)
    (hsw : swapsWith (.ListComp elt [⟨tg, iter, ifs, 0⟩] scope pos) (some (.Name y py)) spos.line X.env = pure true) (hi : DI X c W tg iter f) (ok : BlkOk X.N X.env.scope scope own) (hws : ∀ j ∈ ws, j ∈ own.map (·.2))
    (hg : ∀ (s : Shared) (H : Hp) (C : Addr) (cl : List (Str × Addr)) (fp : List Addr), DG (X.blk s H scope (compEnvC scope cl C X.env) fp) c tg t ws)
    (ht : ∀ (s : Shared) (H : Hp) (C : Addr) (cl : List (Str × Addr)) (fp : List Addr) (c' : Ac), c'.toCn = c.toCn → DTs (X.blk s H scope (compEnvC scope cl C X.env) fp) c' W0 ifs tt)
    (he : ∀ (s : Shared) (H : Hp) (C : Addr) (cl : List (Str × Addr)) (fp : List Addr) (c' : Ac), c'.toCn = c.toCn → DE (X.blk s H scope (compEnvC scope cl C X.env) fp) c' W0 elt fe) (hs : ∀ x, foldedSetIterable iter X.env x = pure x := by intro _; rfl) :
    DS X c W (.Assign [.Name y py] (.ListComp elt [⟨tg, iter, ifs, 0⟩] scope pos) spos) (zSetO i (sComp f t tt fe (own.map (·.2)))) := by
  exact ⟨(ps_setLc (g := gD c t ws) (tt := fun σ H Q => ∃ c' : Ac, c'.toCn = c.toCn ∧ tB c' W0 tt σ H Q) (te := fun σ H Q => ∃ c' : Ac, c'.toCn = c.toCn ∧ tD c' W0 fe σ H Q) hc hN hy hyl hsw hi.pi ok (fun s H C cl fp => (hg s H C cl fp).can)
    (fun s H C cl fp => ⟨fun pins s1 σ H1 Q I ⟨c', h1, h2⟩ => (ht s H C cl fp c' h1).pts.run pins s1 σ H1 Q I h2⟩)
    (fun s H C cl fp => ⟨fun pins s1 σ H1 Q I ⟨c', h1, h2⟩ => (he s H C cl fp c' h1).pe.run pins s1 σ H1 Q I h2⟩) hs).imp' fun D σ H ⟨Hf, l, R, hh⟩ =>
      lc_run hws (fun v σ H Q c' Hf l l' d h1 h2 h3 h4 h5 => ⟨c', Hf, l, l', d, h1, h2, h3, h4, h5⟩) (fun c' σ H Q e h => ⟨c', e, h⟩) (fun c' σ H Q e h => ⟨c', e, h⟩)
        (to_bindO R hh fun co l1 h1 => fun a o H' Hf' R' s' ha r n n0 nd fr => h1 _ H' Hf' (R'.storeO ha r n n0 nd fr) s')⟩
end
end Dx

namespace Dx
open PySem PySem.Spec PyProof.Rows L2

structure Ctx (X : Cx) (c : Ac) (W : WX) (cn : Cn) (k : Nat) : Prop where
  hK : X.K = c.K
  hc : c.toCn = cn
  hr : Room k X.A
  tk : Takes X W
  calm : X.calm = true
  nd : X.N.Nodup
  pass : PassesOwn (model X.prog X.w) X.A X.env X.xe
theorem Ctx.blk {X : Cx} {c c' : Ac} {W : WX} {cn : Cn} {k : Nat} (Z : Ctx X c W cn k) (e : c'.toCn = c.toCn) (s : Shared) (H : Hp) (scope : Scope) (env : Env) (fp : List Addr) : Ctx (X.blk s H scope env fp) c' W0 cn k :=
  ⟨Z.hK.trans (congrArg Cn.K e).symm, e.trans Z.hc, Z.hr, takes0, Z.calm, Z.nd, PassesOwn.never⟩
structure Cal (P : Program) (w : World) (K : PySem.W.Frag) (mg : Str → Option Value) (base : Heap) (cn : Cn) (k : Nat) (x : Str) (m : Fm) : Prop where
  ex : ∃ f, FnR P w K mg base (L2.CX P w) k f (spF cn m) ∧ mg x = some (.ref f) ∧ PySem.W.keepIn K (.ref f) = true
structure Mkr (P : Program) (w : World) (K : PySem.W.Frag) (mg : Str → Option Value) (base : Heap) (cn : Cn) (k : Nat) (x : Str) (n : Nat) (m : Fm) : Prop where
  ex : ∃ f, Mk K (cn.cA n) f ∧ FnR P w K mg base (L2.CX P w) k f (spI cn n m) ∧ mg x = some (.ref (cn.cA n))
section
variable {X : Cx} {c : Ac} {W : WX} {cn : Cn} {k j : Nat} {a b e : Expr} {es : List Expr} {pos p np apos : Pos} {fa fb fe : LSt → Res D} {fs : LSt → Res (List D)} {x y : Str}
theorem e_var (i : Nat) (hN : X.N[i]? = some x := by rfl) (hv : Vis X.env.scope x := by first | exact Or.inl rfl | exact Or.inr (Or.inl rfl) | exact Or.inr (Or.inr rfl)) (hd : (x == ("__debug__" : Str)) = false := by decide)
    (hcd : (x == ("__classdict__" : Str)) = false := by decide) : DE X c W (.Name x pos) (sVar i) := de_var (pe_var hN hv hd hcd)
theorem e_add (Z : Ctx X c W cn k) (ha : DE X c W a fa) (hb : DE X c W b fb) : DE X c W (.BinOp a .Add b pos) (sBin addD fa fb) := de_op op_addA (Z.hK ▸ ok_add ⟨_, rfl⟩) ha hb
theorem e_mul (Z : Ctx X c W cn k) (ha : DE X c W a fa) (hb : DE X c W b fb) : DE X c W (.BinOp a .Mult b pos) (sBin mulD fa fb) := de_op op_mulA (Z.hK ▸ ok_mul) ha hb
theorem e_sub (ha : DE X c W a fa) (hb : DE X c W b fb) : DE X c W (.BinOp a .Sub b pos) (sBin subD fa fb) := de_op op_subA ok_sub ha hb
theorem e_div (ha : DE X c W a fa) (hb : DE X c W b fb) : DE X c W (.BinOp a .FloorDiv b pos) (sBin divD fa fb) := de_op op_divA ok_div ha hb
theorem e_mod (ha : DE X c W a fa) (hb : DE X c W b fb) : DE X c W (.BinOp a .Mod b pos) (sBin modD fa fb) := de_op op_modN ok_mod ha hb
theorem e_pow (ha : DE X c W a fa) (hb : DE X c W b fb) : DE X c W (.BinOp a .Pow b pos) (sBin powD fa fb) := de_op op_pow ok_pow ha hb
theorem e_neg (ha : DE X c W a fa) : DE X c W (.UnaryOp .USub a pos) (sUn negD fa) := de_un un_neg ok_neg ha
theorem e_lt (ha : DE X c W a fa) (hb : DE X c W b fb) : DE X c W (.Compare a [.Lt] [b] pos) (sBin ltD fa fb) := de_cmp op_lt ok_cmpI ha hb (nomark _)
theorem t_ne (Z : Ctx X c W cn k) (ha : DE X c W a fa) (hb : DE X c W b fb) : DT X c W (.Compare a [.NotEq] [b] pos) (sTst (sBin neD fa fb)) := dt_cmp (op_neD Z.hr.units) (Z.hK ▸ ok_ne) ha hb (nomark _)
theorem t_lt (ha : DE X c W a fa) (hb : DE X c W b fb) : DT X c W (.Compare a [.Lt] [b] pos) (sTst (sBin ltD fa fb)) := dt_cmp op_lt ok_cmpI ha hb (nomark _)
theorem t_gt (ha : DE X c W a fa) (hb : DE X c W b fb) : DT X c W (.Compare a [.Gt] [b] pos) (sTst (sBin gtD fa fb)) := dt_cmp op_gt ok_cmpI ha hb (nomark _)
theorem t_tru (Z : Ctx X c W cn k) (ha : DE X c W a fa) (he : ∀ whole, isTrue a X.env whole = (do let v ← whole; standAt a.pos; holding [v] (truthy v)) := by intro _; rfl) : DT X c W a (sTru fa) := dt_tru Z.hK ha he
theorem e_ix (Z : Ctx X c W cn k) (ha : DE X c W a fa) (hb : DE X c W b fb) (hs : PlainIx b := by intro _ _; rfl) : DE X c W (.Subscript a b pos) (sBin ixD fa fb) := de_ix Z.hK ha hb hs
section
variable {hgt : Unit}
theorem e_len (Z : Ctx X c W cn k) (hm : X.mg "len" = none) (ha : DE X c W a fa) (hg : Gl X "len" := by rfl) (he : starEach [a] X.env = (false, eval a X.env) :: starEach [] X.env := by rfl) : DE X c W (.Call (.Name "len" p) [a] [] pos) (sBlt lenD (sCons fa sNil)) :=
  de_blt cr_len2 (ok_len Z.hK) hg hm (by rfl) (da_cons ha da_nil he) (by decide) (by decide) he
theorem e_abs (hm : X.mg "abs" = none) (ha : DE X c W a fa) (hg : Gl X "abs" := by rfl) (he : starEach [a] X.env = (false, eval a X.env) :: starEach [] X.env := by rfl) : DE X c W (.Call (.Name "abs" p) [a] [] pos) (sBlt absD (sCons fa sNil)) :=
  de_blt call_abs ok_abs hg hm (by rfl) (da_cons ha da_nil he) (by decide) (by decide) he
theorem e_int (hm : X.mg "int" = none) (ha : DE X c W a fa) (hg : Gl X "int" := by rfl) (he : starEach [a] X.env = (false, eval a X.env) :: starEach [] X.env := by rfl) : DE X c W (.Call (.Name "int" p) [a] [] pos) (sBlt intD (sCons fa sNil)) :=
  de_bltT call_int1 ok_int hg hm (by rfl) (da_cons ha da_nil he) (by decide) (by decide) he
theorem e_tuple (Z : Ctx X c W cn k) (hm : X.mg "tuple" = none) (ha : DE X c W a fa) (hg : Gl X "tuple" := by rfl) (he : starEach [a] X.env = (false, eval a X.env) :: starEach [] X.env := by rfl) : DE X c W (.Call (.Name "tuple" p) [a] [] pos) (sBlt tupD (sCons fa sNil)) :=
  de_bltT call_tuple_of (ok_tup Z.hK) hg hm (by rfl) (da_cons ha da_nil he) (by decide) (by decide) he
theorem e_all (Z : Ctx X c W cn k) (hm : X.mg "all" = none) (ha : DE X c W a fa) (hg : Gl X "all" := by rfl) (he : starEach [a] X.env = (false, eval a X.env) :: starEach [] X.env := by rfl) : DE X c W (.Call (.Name "all" p) [a] [] pos) (sBlt allD (sCons fa sNil)) :=
  de_blt (cr_all Z.calm) (ok_all Z.hK) hg hm (by rfl) (da_cons ha da_nil he) (by decide) (by decide) he
theorem e_max (Z : Ctx X c W cn k) (hm : X.mg "max" = none) (ha : DE X c W a fa) (hb : DE X c W b fb) (hg : Gl X "max" := by rfl) (he : starEach [a, b] X.env = (false, eval a X.env) :: starEach [b] X.env := by rfl) (he2 : starEach [b] X.env = (false, eval b X.env) :: starEach [] X.env := by rfl)
    (hpl : (backTo pos (starEach [b] X.env)).any (·.1) = false := by rfl) : DE X c W (.Call (.Name "max" p) [a, b] [] pos) (sBlt maxD (sCons fa (sCons fb sNil))) :=
  de_blt (call_max2 Z.calm) ok_max hg hm (by rfl) (da_cons ha (da_cons hb da_nil he2) he) (by decide) (by decide) he hpl
theorem e_min (Z : Ctx X c W cn k) (hm : X.mg "min" = none) (ha : DE X c W a fa) (hb : DE X c W b fb) (hg : Gl X "min" := by rfl) (he : starEach [a, b] X.env = (false, eval a X.env) :: starEach [b] X.env := by rfl) (he2 : starEach [b] X.env = (false, eval b X.env) :: starEach [] X.env := by rfl)
    (hpl : (backTo pos (starEach [b] X.env)).any (·.1) = false := by rfl) : DE X c W (.Call (.Name "min" p) [a, b] [] pos) (sBlt minD (sCons fa (sCons fb sNil))) :=
  de_blt (call_min2 Z.calm) ok_min hg hm (by rfl) (da_cons ha (da_cons hb da_nil he2) he) (by decide) (by decide) he hpl
end
variable {m : Fm} {n : Nat}
theorem e_call (Z : Ctx X c W cn k) (C : Cal X.prog X.w X.K X.mg X.base cn j x m) (hj : j ≤ k) (ha : DA X c W (e :: es) fs) (hg : Gl X x := by rfl) (hdb : (x == ("__debug__" : Str)) = false := by decide)
    (he : starEach (e :: es) X.env = (false, eval e X.env) :: starEach es X.env := by rfl) (hpl : (backTo pos (starEach es X.env)).any (·.1) = false := by rfl) : DE X c W (.Call (.Name x p) (e :: es) [] pos) (sCall m fs) := by
  obtain ⟨f, F, h1, h2⟩ := C.ex
  rw [← Z.hc] at F
  exact de_callR (F.mono hj) Z.hr Z.tk hg h1 h2 ha hdb he hpl
theorem o_call (Z : Ctx X c W cn k) (C : Cal X.prog X.w X.K X.mg X.base cn j x m) (hj : j ≤ k) (ha : DA X c W (e :: es) fs) (hg : Gl X x := by rfl) (hdb : (x == ("__debug__" : Str)) = false := by decide)
    (he : starEach (e :: es) X.env = (false, eval e X.env) :: starEach es X.env := by rfl) (hpl : (backTo pos (starEach es X.env)).any (·.1) = false := by rfl) : DO X c W (.Call (.Name x p) (e :: es) [] pos) (sCallO m fs) := by
  obtain ⟨f, F, h1, h2⟩ := C.ex
  rw [← Z.hc] at F
  exact do_callR (F.mono hj) Z.hr Z.tk hg h1 h2 ha hdb he hpl
theorem e_lend (Z : Ctx X c W cn k) (C : Cal X.prog X.w X.K X.mg X.base cn j x m) (hj : j ≤ k) (i : Nat) {xd : Str} {pd : Pos} (ha : DA X c W es fs) (pv : PE X (.Name xd pd) (tVar i)) (hg : Gl X x := by rfl) (hdb : (x == ("__debug__" : Str)) = false := by decide)
    (he : starEach (.Name xd pd :: es) X.env = (false, eval (.Name xd pd) X.env) :: starEach es X.env := by rfl) (hpl : (backTo pos (starEach es X.env)).any (·.1) = false := by rfl) : DE X c W (.Call (.Name x p) (.Name xd pd :: es) [] pos) (sLend i m fs) := by
  obtain ⟨f, F, h1, h2⟩ := C.ex
  rw [← Z.hc] at F
  exact de_lend (F.mono hj) Z.hr Z.tk hg h1 h2 pv ha hdb he hpl
theorem e_make (Z : Ctx X c W cn k) (C : Mkr X.prog X.w X.K X.mg X.base cn j x n m) (hj : j + 1 ≤ k) (ha : DA X c W (e :: es) fs) (hg : Gl X x := by rfl) (hdb : (x == ("__debug__" : Str)) = false := by decide)
    (he : starEach (e :: es) X.env = (false, eval e X.env) :: starEach es X.env := by rfl) (hpl : (backTo pos (starEach es X.env)).any (·.1) = false := by rfl) : DE X c W (.Call (.Name x p) (e :: es) [] pos) (sCall (mkC n m) fs) := by
  obtain ⟨f, M, F, h1⟩ := C.ex
  rw [← Z.hc] at F M h1
  exact de_make M F (Z.hr.mono hj) Z.tk hg h1 ha hdb he hpl
end
end Dx

namespace Dx
open PySem PySem.Spec PyProof.Rows L2

def i2 (f : Int → Int → Int) : D → D → Option D
  | .int i, .int j => some (.int (f i j))
  | _, _ => none
section
variable {X : Cx} {c : Ac} {W : WX} {cn : Cn} {k : Nat} {e a b : Expr} {pos p : Pos} {x y z : Str} {fe : LSt → Res D}
theorem g_name (i : Nat) (Z : Ctx X c W cn k) (hi : X.N[i]? = some x := by rfl) (hx : Loc X.env.scope x := by first | exact Or.inl rfl | exact Or.inr rfl)
    (hf : X.fn x = true ∨ X.env.scope.names.lookup x = some .local := by first | exact .inl rfl | exact .inr rfl) : PG X (.Name x pos) (gName i) := pg_name Z.nd hi hx hf
theorem r_list (Z : Ctx X c W cn k) {tg : Expr} (he : DE X c W e fe) : DI X c W tg e (sItems fe) := di_list Z.hK he
end
theorem Ctx.at_ {X : Cx} {c : Ac} {W : WX} {cn : Cn} {k : Nat} {f : Str} {tb : Nat → Option Nat} (Z : Ctx X c W cn k) (h : AttrOk cn f tb) : AttrOk c.toCn f tb := by
  rw [Z.hc]
  exact h
section
variable {X : Cx} {c : Ac} {W : WX} {cn : Cn} {k j : Nat} {e o : Expr} {es : List Expr} {pos p apos : Pos} {mn fn : Str} {fo : LSt → Res D} {fs : LSt → Res (List D)} {x : Str}
theorem g_nm (i : Nat) (nd : X.N.Nodup) (hi : X.N[i]? = some x := by rfl) (hx : Loc X.env.scope x := by first | exact Or.inl rfl | exact Or.inr rfl)
    (hf : X.fn x = true ∨ X.env.scope.names.lookup x = some .local := by first | exact .inl rfl | exact .inr rfl) : PG X (.Name x pos) (gName i) := pg_name nd hi hx hf
theorem e_attr {tb : Nat → Option Nat} (Z : Ctx X c W cn k) (ok : AttrOk cn fn tb) (he : DE X c W e fo) (hb : attributeBase e fn X.env (eval e X.env) = eval e X.env := by rfl) : DE X c W (.Attribute e fn pos) (sAttr tb fo) := de_attr Z.hK (Z.at_ ok) he hb
theorem s_self {tb : Nat → Option Nat} {i : Nat} {np pos' : Pos} {fe : LSt → Res D} (Z : Ctx X c W cn k) (ok : AttrOk cn fn tb) (p : PE X (.Name x np) (tVar i)) (he : DE X c W e fe) (hs : swapsWith e (some (.Attribute (.Name x np) fn pos')) pos.line X.env = pure false := by rfl) :
    DS X c W (.Assign [.Attribute (.Name x np) fn pos'] e pos) (zSelf i tb fe) := ds_self Z.hK (Z.at_ ok) p he hs
theorem MthOk.up {P : Program} {w : World} {mg : Str → Option Value} {base : Heap} {tb : Nat → Option Fm} (h : MthOk P w mg base cn j mn tb) (hj : j ≤ k) : MthOk P w mg base cn k mn tb :=
  ⟨fun n m e => let ⟨a, g, b, F⟩ := h.ok n m e; ⟨a, g, b, F.mono hj⟩⟩
theorem e_mth {tb : Nat → Option Fm} {pl : Sem Bool} (Z : Ctx X c W cn k) (ok : MthOk X.prog X.w X.mg X.base cn j mn tb) (hj : j ≤ k) (ho : DE X c W o fo) (ha : DA X c W (e :: es) fs)
    (hst : starEach (e :: es) X.env = (false, eval e X.env) :: starEach es X.env := by rfl) (hpl : (backTo pos (starEach es X.env)).any (·.1) = false := by rfl)
    (ht : eval (.Call (.Attribute o mn apos) (e :: es) [] pos) X.env = (do
      let ov ← eval o X.env
      standAt apos.atName
      let (f, first) ← holding [ov] (getMethod ov mn pl)
      callWith pos f first (backTo pos (starEach (e :: es) X.env)) (backToKw pos (keywordEach [] X.env))) := by rfl) : DE X c W (.Call (.Attribute o mn apos) (e :: es) [] pos) (sMth tb fo fs) := by
  have ok2 := ok.up hj
  rw [← Z.hc] at ok2
  exact de_mth Z.hK ok2 Z.hr Z.tk ho ha hst hpl ht
theorem e_mth0 {tb : Nat → Option Fm} {pl : Sem Bool} (Z : Ctx X c W cn k) (ok : MthOk X.prog X.w X.mg X.base cn j mn tb) (hj : j ≤ k) (ho : DE X c W o fo)
    (ht : eval (.Call (.Attribute o mn apos) [] [] pos) X.env = (do
      let ov ← eval o X.env
      standAt apos.atName
      let (f, first) ← holding [ov] (getMethod ov mn pl)
      callWith pos f first (backTo pos (starEach [] X.env)) (backToKw pos (keywordEach [] X.env))) := by rfl) : DE X c W (.Call (.Attribute o mn apos) [] [] pos) (sMth tb fo sNil) := by
  have ok2 := ok.up hj
  rw [← Z.hc] at ok2
  exact de_mth0 Z.hK ok2 Z.hr Z.tk ho ht
theorem e_prp {tb : Nat → Option Fm} (Z : Ctx X c W cn k) (ok : PrpOk X.prog X.w X.mg X.base cn j fn tb) (hj : j + 1 ≤ k) (he : DE X c W e fo) (hb : attributeBase e fn X.env (eval e X.env) = eval e X.env := by rfl) : DE X c W (.Attribute e fn pos) (sPrp tb fo) := by
  rw [← Z.hc] at ok
  exact de_prp Z.hK ok (Z.hr.mono hj) he hb
end
theorem fl0 {cn : Cn} : FlatD cn [] [] := fun _ _ => rfl
section
variable {P : Program} {w : World} {K : PySem.W.Frag} {mg : Str → Option Value} {base : Heap} {cn : Cn} {x qual : Str} {params : Arguments} {body : List Stmt} {scope : Scope} {f : Addr} {fd : FuncData} {N ps : List Str} {k : Nat} {fb : LSt → Fl}
theorem fn0 {n p : Nat} (hK : K = cn.K) (F : FunD K x qual params body scope [] [] f fd) (S : FnScope N ps scope) (hb : L2.Binds K fd ps [])
    (hbody : ∀ (cdv : Value) (A : Around) (outer : List Env) (s : Shared) (H : Hp) (E : XK) (c : Ac), Ctx (cxOf (L2.CX P w) P w K mg base N qual scope f cdv A outer s H E) c (fun cls d _ H' => E cls d H') cn k →
      DSs (cxOf (L2.CX P w) P w K mg base N qual scope f cdv A outer s H E) c (fun cls d _ H' => E cls d H') body fb) (hn : N.length = n := by rfl) (hp : ps.length = p := by rfl) : FnR P w K mg base (L2.CX P w) (k + 1) f (spF cn (mOf n p fb)) := by
  subst hn hp
  exact fnr_of (dd := []) (dvs := []) (ds := []) (fnD_ok (cn := cn) F S fun cdv A outer s H E c hc hr => hbody cdv A outer s H E c ⟨by rw [hc]; exact hK, hc, hr, takes_of rfl rfl rfl rfl, rfl, S.nd, passes_of rfl⟩) rfl hb .nil fl0 fun xs g _ => by rw [List.append_nil]
theorem fo0 (hK : K = cn.K) (F : FunD K x qual params body scope [] [] f fd) (S : FnScope N ps scope)
    (hbody : ∀ (cdv : Value) (A : Around) (outer : List Env) (s : Shared) (H : Hp) (E : XK) (c : Ac), Ctx (cxOf (L2.CX P w) P w K mg base N qual scope f cdv A outer s H E) c (fun cls d _ H' => E cls d H') cn k →
      DSs (cxOf (L2.CX P w) P w K mg base N qual scope f cdv A outer s H E) c (fun cls d _ H' => E cls d H') body fb) {n p : Nat} (hn : N.length = n := by rfl) (hp : ps.length = p := by rfl) : FnOk P w K mg base (L2.CX P w) (k + 1) f fd ps (fun vs H Q E => vs.length = p ∧ spF cn (mOf n p fb) vs H Q E) := by
  subst hn hp
  exact fnD_ok (cn := cn) F S fun cdv A outer s H E c hc hr => hbody cdv A outer s H E c ⟨by rw [hc]; exact hK, hc, hr, takes_of rfl rfl rfl rfl, rfl, S.nd, passes_of rfl⟩
theorem in0 {n m p : Nat} (hK : K = cn.K) (F : FunD K x qual params body scope [] [] f fd) (S : FnScope N ps scope) (hb : L2.Binds K fd ps [])
    (hbody : ∀ (cdv : Value) (A : Around) (outer : List Env) (s : Shared) (H : Hp) (E : XK) (c : Ac), Ctx (cxOf (L2.CX P w) P w K mg base N qual scope f cdv A outer s H E) c (fun cls d _ H' => E cls d H') cn k →
      DSs (cxOf (L2.CX P w) P w K mg base N qual scope f cdv A outer s H E) c (fun cls d _ H' => E cls d H') body fb) (hn : N.length = m := by rfl) (hp : ps.length = p := by rfl) : FnR P w K mg base (L2.CX P w) (k + 1) f (spI cn n (mOfI m p fb)) := by
  subst hn hp
  exact fnr_ofI (dd := []) (dvs := []) (ds := []) (init_ok (cn := cn) F S fun cdv A outer s H E c hc hr => hbody cdv A outer s H E c ⟨by rw [hc]; exact hK, hc, hr, takes_of rfl rfl rfl rfl, rfl, S.nd, passes_of rfl⟩) rfl hb .nil fl0 fun xs g _ => by rw [List.append_nil]
end
end Dx

namespace Dx
open PySem PySem.Spec PyProof.Rows L2

structure IsiOk (cn : Cn) (C : Addr) (tb : Nat → Option Bool) : Prop where
  own : ∀ n b, tb n = some b → SlX.SCls cn.K (cn.cA n) ∧ SlX.SIsi cn.K (cn.cA n) ∧ PySem.W.kitOne cn.K (.ref (cn.cA n)) (.ref C) = some b
  kit : ∀ t ∈ [0, 1, 2, 3, 4, 5, 6], PySem.W.kitOne cn.K (.type (kindN t)) (.ref C) = some false
def isoD (tb : Nat → Option Bool) : D → Option D
  | .ins n _ => (tb n).map .bl
  | d => (kindD d).map fun _ => .bl false
section
variable {X : Cx} {c : Ac} {W : WX} {e : Expr} {fe : LSt → Res D} {p pt pos : Pos} {y : Str} {C : Addr} {tb : Nat → Option Bool}
theorem de_isiO (hK : X.K = c.K) (ok : IsiOk c.toCn C tb) (hg : Gl X "isinstance") (hm : X.mg "isinstance" = none) (he : DE X c W e fe) (hgt : Gl X y) (hmt : X.mg y = some (.ref C))
    (hd : (y == ("__debug__" : Str)) = false := by decide) (hs : starEach (e :: [.Name y pt]) X.env = (false, eval e X.env) :: starEach [.Name y pt] X.env := by rfl) (hs2 : starEach [.Name y pt] X.env = [(false, eval (.Name y pt) X.env)] := by rfl)
    (hpl : (backTo pos (starEach [.Name y pt] X.env)).any (·.1) = false := by rfl) : DE X c W (.Call (.Name "isinstance" p) [e, .Name y pt] [] pos) (sUn (isoD tb) fe) :=
  ⟨(pe_callB (call_isi2.or (SlX.call_isiSl (u := .ref C))) hg hm (by rfl) (pa_cons he.pe (pa_cons (pe_glob hgt hmt (v := .ref C) rfl hd) pa_nil hs2) hs) (by decide) (by decide) hs hpl).imp' fun _ _ _ ⟨Hf, l, R, h⟩ => run_bind PD.mo R h fun d l1 v H1 Hf1 R1 s1 r1 h1 => by
    have kit : ∀ n, kindD d = some n → isoD tb d = some (.bl false) → rIsi2 X.K [v, .ref C] H1 _ := fun n ek e2 => by
      rw [e2] at h1
      refine ⟨v, .ref C, .type (kindN n), .ref C, false, rfl, .own C, ?_, ?_, h1 _ H1 Hf1 R1 (Same.refl _) rfl⟩
      · rw [hK]
        exact kind_ty ek R1.sub r1
      · rw [hK]
        exact ok.kit n (kind_lt ek)
    cases d with
    | ins n fs =>
      have h1 : wpR (opt ((tb n).map .bl) l1) (PD c _ _ Hf1) (PX c W _ Hf1) := h1
      cases e1 : tb n with
      | none =>
        rw [e1] at h1
        exact h1.elim
      | some b =>
        rw [e1] at h1
        obtain ⟨a, dx, vs, rfl, ha, hdx, rv⟩ := r1
        obtain ⟨k1, k2, k3⟩ := ok.own n b e1
        refine .inr ⟨a, c.cA n, dx, vs.map some, .ref C, b, rfl, rfl, fun w hw => hw, .inr ⟨R1.sub _ _ ha, R1.sub _ _ hdx⟩, ?_, ?_, ?_, h1 _ H1 Hf1 R1 (Same.refl _) rfl⟩
        · rw [hK]
          exact k1
        · rw [hK]
          exact k2
        · rw [hK]
          exact k3
    | non => exact .inl (kit _ rfl rfl)
    | bl _ => exact .inl (kit _ rfl rfl)
    | int _ => exact .inl (kit _ rfl rfl)
    | str _ => exact .inl (kit _ rfl rfl)
    | tup _ => exact .inl (kit _ rfl rfl)
    | lst _ => exact .inl (kit _ rfl rfl)
    | dK _ _ => exact .inl (kit _ rfl rfl)
    | dT _ _ => exact .inl (kit _ rfl rfl)
    | _ => exact h1.elim⟩
end
theorem e_isi {X : Cx} {c : Ac} {W : WX} {cn : Cn} {k : Nat} {e : Expr} {fe : LSt → Res D} {p pt pos : Pos} {y : Str} {tb : Nat → Option Bool} (Z : Ctx X c W cn k) (J : ∃ C, X.mg y = some (.ref C) ∧ IsiOk cn C tb) (hm : X.mg "isinstance" = none) (he : DE X c W e fe)
    (hg : Gl X "isinstance" := by rfl) (hgt : Gl X y := by rfl) (hd : (y == ("__debug__" : Str)) = false := by decide) (hs : starEach (e :: [.Name y pt]) X.env = (false, eval e X.env) :: starEach [.Name y pt] X.env := by rfl) (hs2 : starEach [.Name y pt] X.env = [(false, eval (.Name y pt) X.env)] := by rfl)
    (hpl : (backTo pos (starEach [.Name y pt] X.env)).any (·.1) = false := by rfl) : DE X c W (.Call (.Name "isinstance" p) [e, .Name y pt] [] pos) (sUn (isoD tb) fe) := by
  obtain ⟨C, h1, h2⟩ := J
  rw [← Z.hc] at h2
  exact de_isiO Z.hK h2 hg hm he hgt h1 hd hs hs2 hpl
theorem isB_ok {K : PySem.W.Frag} {A C : Addr} {b : Bool} (h : isB K A C b = true) : SlX.SIsi K A ∧ PySem.W.kitOne K (.ref A) (.ref C) = some b := by
  unfold isB isB.sclT at h
  simp only [Bool.and_eq_true, decide_eq_true_eq] at h
  exact ⟨⟨h.1.1.1.1, h.1.1.1.2, h.1.1.2, h.1.2⟩, h.2⟩
theorem ikB_ok {K : PySem.W.Frag} {C : Addr} (h : ikB K C = true) : ∀ t ∈ [0, 1, 2, 3, 4, 5, 6], PySem.W.kitOne K (.type (kindN t)) (.ref C) = some false := fun t ht => of_decide_eq_true (List.all_eq_true.mp h t ht)
end Dx

namespace Dx
open PySem PySem.Spec PyProof.Rows L2

def intsD : List D → Option (List Int)
  | [] => some []
  | .int i :: r => (intsD r).map (i :: ·)
  | _ => none
theorem intsD_get {cn : Cn} {ad : Ad} {H : Hp} : ∀ {ds : List D} {ns : List Int} {vs : List V}, intsD ds = some ns → RVals cn ad H ds vs → vs = ns.map V.int
  | [], ns, vs, h, r => by
    cases h
    cases (show _ = [] from r)
    rfl
  | .int b :: ds, ns, vs, h, r => by
    have h' : (intsD ds).map (b :: ·) = some ns := h
    rw [Option.map_eq_some_iff] at h'
    obtain ⟨ns', e1, e2⟩ := h'
    subst e2
    obtain ⟨v, r', e, q, t⟩ := r
    subst e
    cases q
    rw [intsD_get e1 t]
    rfl
section
variable {X : Cx} {c : Ac} {W : WX} {cn : Cn} {k : Nat} {a : Expr} {fa : LSt → Res D} {p pos : Pos}
end
end Dx

namespace Dx
open PySem PySem.Spec PyProof.Rows L2

theorem law_fin {P : Program} {w : World} {K : PySem.W.Frag} {mg : Str → Option Value} {base : Heap} {k : Nat} {f : Addr} {fd : FuncData} {ps : List Str} {cn : Cn} {m : Fm} (F : FnOk P w K mg base (L2.CX P w) k f fd ps (fun vs H Q E => vs.length = 1 ∧ spF cn m vs H Q E)) :
    FnOk P w K mg base CX0 k f fd ps (fun vs H Q _ => vs.length = 1 ∧ spF cn m vs H Q fun _ _ _ => False) :=
  ⟨fun vs H Q E h => F.len vs H Q _ h, fun A outer s H args us vs Q E hr he hb hv hs => codeAny_mono (F.run A outer s H args us vs Q _ hr he hb hv hs) fun r s' q => by
    cases r with
    | ok fl => cases fl <;> exact q
    | error e => exact cx_false q⟩
open Classical in
noncomputable def noT (cn : Cn) (H : Hp) : Hp := fun b => if isT cn b then none else H b
theorem noT_sub {cn : Cn} {H : Hp} : Same (noT cn H) H := fun b u e => by
  unfold noT at e
  split at e
  · cases e
  · exact e
theorem law_trueT {K : PySem.W.Frag} {cn : Cn} {m : Fm} (hK : cn.K = K) (plain : ∀ ns : List Int, ns.length ≤ 63 → ∃ g, m [.scr ns] ⟨none, none⟩ = .ok (.v (.bl true)) g) (H : Hp) (a : Addr) (ns : List Int) (hl : ns.length ≤ 63)
    (hT : ∀ P, isT cn P → H P = some (.tbl #[])) (hS : SqL K H a (ns.map V.int)) : [V.ref a].length = 1 ∧ spF cn m [.ref a] H (fun v _ => v = .bl true) fun _ _ _ => False := by
  have hS2 : SqL K (noT cn H) a (ns.map V.int) := by
    have at_ : ∀ o, H a = some o → (∀ ps, o ≠ .tbl ps) → noT cn H a = some o := fun o e ne => by
      unfold noT
      rw [if_neg (fun z => ne _ (Option.some.inj (e.symm.trans (hT a z))))]
      exact e
    rcases hS with (h | ⟨o, h⟩) | h
    · exact .inl (.inl (at_ _ h fun ps z => by cases z))
    · exact .inl (.inr ⟨o, at_ _ h fun ps z => by cases z⟩)
    · exact .inr h
  have hf : ∀ P, isT cn P → noT cn H P = none := fun P h => if_pos h
  refine ⟨rfl, noT cn H, ⟨0, 0, 0, 0, 0, 0, .none⟩, [.scr ns], ⟨none, none⟩, noT_sub, ⟨fun _ _ _ q => (nomatch q), fun _ _ q => (nomatch q), ⟨fun P q h => ?_, fun P h => ?_⟩, fun q xs h => by
    unfold noT
    rw [if_neg (fun z => by have w := hT q z; rw [h] at w; cases w)]
    exact h⟩, .cons ⟨a, rfl, by rw [hK]; exact hS2⟩ .nil, ?_⟩
  · have h2 : isT cn P := .inl (by rw [h]; rfl)
    exact ⟨hf P h2, #[], hT P h2, trivial, fun pos cv z => by
      have z : codeAmong pos [] = some cv := z
      simp [codeAmong] at z⟩
  · exact ⟨hf P (.inr h), #[], hT P (.inr h), trivial⟩
  · obtain ⟨g, e⟩ := plain ns hl
    rw [e]
    exact fun v H' Hf' _ r => r
end Dx

namespace Dx
open PySem PySem.Spec PyProof.Rows L2

def FnRK (P : Program) (w : World) (K : PySem.W.Frag) (mg : Str → Option Value) (base : Heap) (CX : CXT) (k : Nat) (f : Addr) (n : Nat) (ks : List Str) (sp : Sp) : Prop :=
  ∀ (A : Around) (outer : List Env) (s : Shared) (H : Hp) (us ws : List Value) (vs zs : List V) (Q : VK) (E : XK), Room k A → Env0 P w K mg base A outer s H → Vals vs us → Vals zs ws → vs.length = n → zs.length = ks.length →
    sp (vs ++ zs) H Q E → codeAny (model P w) A (.call (.ref f) ⟨us, ks.zip ws⟩) (CR CX outer P w H s Q E) s
section
variable {P : Program} {w : World} {K : PySem.W.Frag} {mg : Str → Option Value} {base : Heap} {CX : CXT} {j k n : Nat} {f : Addr} {fd : FuncData} {ps ks : List Str} {sp sp' : Sp} {g : List Value → List Value → List Value}
theorem FnRK.mono (F : FnRK P w K mg base CX j f n ks sp) (h : j ≤ k) : FnRK P w K mg base CX k f n ks sp := fun A outer s H us ws vs zs Q E hr => F A outer s H us ws vs zs Q E (hr.mono h)
theorem fnrk_of (F : FnOk P w K mg base CX k f fd ps sp') (hb : KBn K fd ps n ks g (fun vs zs => vs ++ zs)) (hs : ∀ vs H Q E, vs.length = n + ks.length → sp vs H Q E → sp' vs H Q E) : FnRK P w K mg base CX k f n ks sp := by
  intro A outer s H us ws vs zs Q E hr e0 r1 r2 l1 l2 h
  have KX : K.In s.heap := e0.mod.kin.keeps fun b o e => (e0.bs b o e).1
  refine F.run A outer s H ⟨us, ks.zip ws⟩ (g us ws) (vs ++ zs) Q E hr e0 (hb.to s us ws KX ?_ ?_) (hb.rel r1 r2) (hs _ _ _ _ ?_ h)
  · rw [← r1.length, l1]
  · rw [← r2.length, l2]
  · rw [List.length_append, l1, l2]
end

structure DK (X : Cx) (c : Ac) (W : WX) (kws : List Keyword) (f : LSt → Res (List D)) : Prop where
  pk : PK X kws (tA c W f)
def sCallK (n j : Nat) (m : Fm) (fa fk : LSt → Res (List D)) : LSt → Res D := fun l => (fa l).bind fun ds l => (fk l).bind fun es l => if ds.length = n ∧ es.length = j then frRes l (m (ds ++ es) l.g) else .bad
section
variable {X : Cx} {c : Ac} {W : WX} {e : Expr} {es : List Expr} {kws : List Keyword} {pos p kpos : Pos} {fa fk : LSt → Res (List D)} {fe : LSt → Res D} {m mi : Fm} {k n : Nat} {f : Addr} {x nm : Str} {ks : List Str}
theorem _root_.L2.PK.imp' {X : Cx} {e : List Keyword} {t t' : TA} (p : PK X e t) (h : ∀ σ H Q, t' σ H Q → t σ H Q) : PK X e t' := ⟨fun ps pins s σ H Q I q => p.run ps pins s σ H Q I (h σ H Q q)⟩
theorem dk_nil : DK X c W [] sNil := ⟨pk_nil.imp' fun _ _ _ ⟨Hf, l, R, h⟩ => h [] _ Hf R (Same.refl _) .nil⟩
theorem dk_cons (ha : DE X c W e fe) (hr : DK X c W kws fk) : DK X c W (⟨some nm, e, kpos⟩ :: kws) (sCons fe fk) :=
  ⟨(pk_cons ha.pe hr.pk).imp' fun _ _ _ ⟨Hf, l, R, h⟩ => run_bind PA'.mo R h fun d l1 v H1 Hf1 R1 s1 r1 h1 => run_bindA PA'.mo R1 h1 fun ds l2 vs H2 Hf2 R2 s2 r2 h2 => h2 (v :: vs) H2 Hf2 R2 (Same.refl _) (.cons (r1.mono s2) r2)⟩
theorem mkw_run {cl : Nat} {σ : L2.St} {H : Hp} {Q : VK} (h : tD c W (sCallK n ks.length (mkC cl mi) fa fk) σ H Q) :
    tA c W fa σ H fun vs H1 => tA c W fk σ H1 fun zs H2 => vs.length = n ∧ zs.length = ks.length ∧ ∀ x dx, H2 x = none → H2 dx = none → dx ≠ x →
      spI c.toCn cl mi (.ref x :: (vs ++ zs)) (upd (upd H2 dx (.own x)) x (.ins (c.cA cl) dx [])) (fun v H3 => v = .non ∧ Q (.ref x) H3) (WE W σ) := by
  obtain ⟨Hf, l, R, h⟩ := h
  refine run_bindA PD.mo R h fun ds l1 vs H1 Hf1 R1 s1 r1 h1 => run_bindA PD.mo R1 h1 fun es l2 zs H2 Hf2 R2 s2 r2 h2 => ?_
  split at h2
  · rename_i hz
    exact ⟨r1.length.symm.trans hz.1, r2.length.symm.trans hz.2, fun x dx n1 n2 n3 => make_res R2 ((RVals.mono s2 _ _ r1).append r2) n1 n2 n3 h2⟩
  · exact h2.elim
theorem de_makeK {cl : Nat} (M : Mk X.K (c.cA cl) f) (F : FnRK X.prog X.w X.K X.mg X.base (L2.CX X.prog X.w) k f (n + 1) ks (spI c.toCn cl mi)) (hr : Room (k + 1) X.A) (tk : Takes X W) (hg : Gl X x) (hm : X.mg x = some (.ref (c.cA cl)))
    (ha : DA X c W (e :: es) fa) (hkw : DK X c W kws fk) (hdb : (x == ("__debug__" : Str)) = false := by decide) (he : starEach (e :: es) X.env = (false, eval e X.env) :: starEach es X.env := by rfl)
    (hall : (backToKw pos (keywordEach kws X.env)).all (·.1.isSome) = true := by rfl) (hks : (backToKw pos (keywordEach kws X.env)).filterMap (·.1) = ks := by rfl)
    (hpl : ((backTo pos (starEach (e :: es) X.env)).any (·.1) || (backToKw pos (keywordEach kws X.env)).any (·.1.isNone)) = false := by rfl) :
    DE X c W (.Call (.Name x p) (e :: es) kws pos) (sCallK n ks.length (mkC cl mi) fa fk) := by
  refine ⟨⟨fun pins s σ H Q I h => wpAny_Call_Name_kw (ld_glob I hg hm ?_ hdb)⟩⟩
  refine PySem.W.callWith_KW (h₀ := X.base) I.ok.mod.kin M.kp hall (thn (ha.pa.run pos pins s σ H _ I (mkw_run h)) fun us s1 ⟨vs, H1, I1, r, q⟩ => thn (hkw.pk.run pos pins s1 σ H1 _ I1 q) fun ws s2 ⟨zs, H2, I2, rz, l1, l2, q2⟩ => ⟨I2.kIn, ?_⟩) hpl he
  rw [hks]
  have hq := q2 (s2.heap.objs.size + 1) s2.heap.objs.size (I2.hok.fresh (Nat.le_succ _)) (I2.hok.fresh (Nat.le_refl _)) (Nat.ne_of_lt (Nat.lt_succ_self _))
  have J := Inv.made (C := c.cA cl) I2
  have r1 : Vals (V.ref (s2.heap.objs.size + 1) :: vs) (Value.ref (s2.heap.objs.size + 1) :: us) := .cons rfl r
  refine wpAny_call (make_map (f := f) I2.kIn M.makes M.init (beq_iff_eq.mp M.fn) (codeAny_mono (F _ X.stack _ _ _ ws _ zs _ _ (hr.make (c.cA cl) us (ks.zip ws)) (J.env0.make (c.cA cl) us (ks.zip ws)) r1 rz (congrArg Nat.succ l1) l2 hq) fun r s' hq' => ?_))
  cases r with
  | error e => exact passAt tk σ pins _ _ e s' J hq'
  | ok fl =>
    cases fl with
    | ret u =>
      obtain ⟨v, H', J3, rv, ev, q3⟩ := J.after hq'
      subst ev
      exact ⟨rv, V.ref (s2.heap.objs.size + 1), H', J3, rfl, q3⟩
    | next => exact hq'.elim
    | brk => exact hq'.elim
    | cont => exact hq'.elim
end

structure MkrK (P : Program) (w : World) (K : PySem.W.Frag) (mg : Str → Option Value) (base : Heap) (cn : Cn) (k : Nat) (x : Str) (n : Nat) (ks : List Str) (cl : Nat) (m : Fm) : Prop where
  ex : ∃ f, Mk K (cn.cA cl) f ∧ FnRK P w K mg base (L2.CX P w) k f (n + 1) ks (spI cn cl m) ∧ mg x = some (.ref (cn.cA cl))
section
variable {X : Cx} {c : Ac} {W : WX} {cn : Cn} {k j n : Nat} {e : Expr} {es : List Expr} {kws : List Keyword} {pos p : Pos} {fa fk : LSt → Res (List D)} {m : Fm} {x : Str} {ks : List Str}
theorem e_makeK {cl : Nat} (Z : Ctx X c W cn k) (C : MkrK X.prog X.w X.K X.mg X.base cn j x n ks cl m) (hj : j + 1 ≤ k) (ha : DA X c W (e :: es) fa) (hkw : DK X c W kws fk) (hg : Gl X x := by rfl) (hdb : (x == ("__debug__" : Str)) = false := by decide)
    (he : starEach (e :: es) X.env = (false, eval e X.env) :: starEach es X.env := by rfl) (hall : (backToKw pos (keywordEach kws X.env)).all (·.1.isSome) = true := by rfl) (hks : (backToKw pos (keywordEach kws X.env)).filterMap (·.1) = ks := by rfl)
    (hpl : ((backTo pos (starEach (e :: es) X.env)).any (·.1) || (backToKw pos (keywordEach kws X.env)).any (·.1.isNone)) = false := by rfl) : DE X c W (.Call (.Name x p) (e :: es) kws pos) (sCallK n ks.length (mkC cl m) fa fk) := by
  obtain ⟨f, M, F, h1⟩ := C.ex
  rw [← Z.hc] at F M h1
  exact de_makeK M F (Z.hr.mono hj) Z.tk hg h1 ha hkw hdb he hall hks hpl
end
def dfl (m : Fm) (d : D) : Fm := fun ds g => m (ds ++ [d]) g
def flt : D → Option V
  | .non => some .non
  | .bl b => some (.bl b)
  | .int i => some (.int i)
  | .str x => some (.str x)
  | _ => none
theorem flt_ok {cn : Cn} {d : D} {v : V} (h : flt d = some v) : FlatD cn [d] [v] := fun ad Hf => by
  refine .cons ?_ .nil
  cases d <;> simp only [flt, reduceCtorEq, Option.some.injEq] at h <;> exact h.symm
section
variable {P : Program} {w : World} {K : PySem.W.Frag} {mg : Str → Option Value} {base : Heap} {cn : Cn} {x qual : Str} {params : Arguments} {body : List Stmt} {scope : Scope} {f : Addr} {fd : FuncData} {N ps : List Str} {k : Nat} {fb : LSt → Fl} {dvs : List V} {kws : List (Str × V)}
abbrev OkF (P : Program) (w : World) (K : PySem.W.Frag) (mg : Str → Option Value) (base : Heap) (cn : Cn) (k : Nat) (f : Addr) (fd : FuncData) (ps : List Str) (m : Fm) : Prop := FnOk P w K mg base (L2.CX P w) k f fd ps (fun vs H Q E => vs.length = ps.length ∧ spF cn m vs H Q E)
abbrev OkI (P : Program) (w : World) (K : PySem.W.Frag) (mg : Str → Option Value) (base : Heap) (cn : Cn) (k : Nat) (f : Addr) (fd : FuncData) (ps : List Str) (cl : Nat) (m : Fm) : Prop := FnOk P w K mg base (L2.CX P w) k f fd ps (fun vs H Q E => vs.length = ps.length ∧ spI cn cl m vs H Q E)
theorem fo1 (hK : K = cn.K) (F : FunD K x qual params body scope dvs kws f fd) (S : FnScope N ps scope)
    (hbody : ∀ (cdv : Value) (A : Around) (outer : List Env) (s : Shared) (H : Hp) (E : XK) (c : Ac), Ctx (cxOf (L2.CX P w) P w K mg base N qual scope f cdv A outer s H E) c (fun cls d _ H' => E cls d H') cn k →
      DSs (cxOf (L2.CX P w) P w K mg base N qual scope f cdv A outer s H E) c (fun cls d _ H' => E cls d H') body fb) {n p : Nat} (hn : N.length = n := by rfl) (hp : ps.length = p := by rfl) : OkF P w K mg base cn (k + 1) f fd ps (mOf n p fb) := by
  subst hn hp
  exact fnD_ok (cn := cn) F S fun cdv A outer s H E c hc hr => hbody cdv A outer s H E c ⟨by rw [hc]; exact hK, hc, hr, takes_of rfl rfl rfl rfl, rfl, S.nd, passes_of rfl⟩
theorem io1 {cl : Nat} (hK : K = cn.K) (F : FunD K x qual params body scope dvs kws f fd) (S : FnScope N ps scope)
    (hbody : ∀ (cdv : Value) (A : Around) (outer : List Env) (s : Shared) (H : Hp) (E : XK) (c : Ac), Ctx (cxOf (L2.CX P w) P w K mg base N qual scope f cdv A outer s H E) c (fun cls d _ H' => E cls d H') cn k →
      DSs (cxOf (L2.CX P w) P w K mg base N qual scope f cdv A outer s H E) c (fun cls d _ H' => E cls d H') body fb) {n p : Nat} (hn : N.length = n := by rfl) (hp : ps.length = p := by rfl) : OkI P w K mg base cn (k + 1) f fd ps cl (mOfI n p fb) := by
  subst hn hp
  exact init_ok (cn := cn) F S fun cdv A outer s H E c hc hr => hbody cdv A outer s H E c ⟨by rw [hc]; exact hK, hc, hr, takes_of rfl rfl rfl rfl, rfl, S.nd, passes_of rfl⟩
variable {n p : Nat} {m : Fm} {cl : Nat} {d : D} {v : V}
theorem OkF.all (F : OkF P w K mg base cn k f fd ps (mOf n p fb)) (hp : ps.length = p) {ds : List Value} {l : List V} (hl : l = []) (hb : Vals l ds ∧ L2.Binds K fd ps ds) : FnR P w K mg base (L2.CX P w) k f (spF cn (mOf n p fb)) := by
  subst hl
  exact fnr_of F hp hb.2 hb.1 fl0 fun xs g _ => by rw [List.append_nil]
theorem OkF.dfl (F : OkF P w K mg base cn k f fd ps (mOf n p fb)) (hp : ps.length = p) {l : List V} (hl : l = [v]) (hd : flt d = some v) (hb : ∃ ds, Vals l ds ∧ L2.Binds K fd ps ds) : FnR P w K mg base (L2.CX P w) k f (spF cn (dfl (mOf n p fb) d)) := by
  subst hl
  obtain ⟨ds, h1, h2⟩ := hb
  exact fnr_of F hp h2 h1 (flt_ok hd) fun xs g _ => rfl
theorem OkI.all (F : OkI P w K mg base cn k f fd ps cl (mOfI n p fb)) (hp : ps.length = p) {ds : List Value} {l : List V} (hl : l = []) (hb : Vals l ds ∧ L2.Binds K fd ps ds) : FnR P w K mg base (L2.CX P w) k f (spI cn cl (mOfI n p fb)) := by
  subst hl
  exact fnr_ofI F hp hb.2 hb.1 fl0 fun xs g _ => by rw [List.append_nil]
theorem OkI.dfl (F : OkI P w K mg base cn k f fd ps cl (mOfI n p fb)) (hp : ps.length = p) {l : List V} (hl : l = [v]) (hd : flt d = some v) (hb : ∃ ds, Vals l ds ∧ L2.Binds K fd ps ds) : FnR P w K mg base (L2.CX P w) k f (spI cn cl (dfl (mOfI n p fb) d)) := by
  subst hl
  obtain ⟨ds, h1, h2⟩ := hb
  exact fnr_ofI F hp h2 h1 (flt_ok hd) fun xs g _ => rfl
variable {ks : List Str} {g : List Value → List Value → List Value}
theorem OkF.kw (F : OkF P w K mg base cn k f fd ps m) (hb : KBn K fd ps n ks g (fun vs zs => vs ++ zs)) (hn : n + ks.length = ps.length) : FnRK P w K mg base (L2.CX P w) k f n ks (spF cn m) :=
  fnrk_of F hb fun vs H Q E hl h => ⟨hl.trans hn, h⟩
theorem OkI.kw (F : OkI P w K mg base cn k f fd ps cl m) (hb : KBn K fd ps n ks g (fun vs zs => vs ++ zs)) (hn : n + ks.length = ps.length) : FnRK P w K mg base (L2.CX P w) k f n ks (spI cn cl m) :=
  fnrk_of F hb fun vs H Q E hl h => ⟨hl.trans hn, h⟩
end
end Dx

namespace DxR
open PySem PySem.W PySem.Calls PyProof.Rows PySem.Spec

section
variable {prog : Program} {w : World} {A : Around} {E : Value → Shared → Prop} {s : Shared} {K : Frag} {C : Addr} {B newId initId : String} {bmB : List Value}
theorem xi_store {x t : Addr} {f : PySem.Str} {v : Value} {Q : Unit → Shared → Prop} (SF : StoreFacts B bmB "object.__setattr__" "object") (X : K.In s.heap) (hx : s.heap.get? x = some (excObj C t none .none)) (hp : excOver K C bmB = true)
    (ht : takerIn K C f = some none) (hh : hasDictIn K C = true) (hsa : findIn K (.ref C) "__setattr__" = some (some (.builtin "object.__setattr__")))
    (h : ∀ (dx : Addr) (h' : Heap) (tk : Nat), (∀ b o, b ≠ x → s.heap.get? b = some o → h'.get? b = some o) → s.heap.objs.size ≤ dx → dx ≠ x → h'.get? x = some (excObj C t (some dx) .none) →
      h'.Ns1 dx (fun y => if y = f then some v else none) → Q () { s with heap := h', toks := tk }) : wpAny (model prog w) A (setAttr (.ref x) f v) Q E s := by
  have I : InstAt s.heap x (excObj C t none .none) C none := ⟨hx, rfl, rfl, trivial⟩
  refine set_plain X I hsa ?_
  refine osa_openX (s := { s with toks := s.toks + 1 }) (od := none) SF X I hp ht fun b => ?_
  obtain ⟨cd, hc, hd⟩ := any_some hh
  have hxs : x < s.heap.objs.size := Heap.lt_size hx
  refine wpAny_bind (wpAny_pure (wpAny_bind (instanceDict_exc hx (looks_clsIn X hc) hd ?_)))
  have hpu : (s.heap.push (dictOf [] 0)).get? x = some (excObj C t none .none) := Heap.get?_push_of_some _ hx
  refine HandSPX.store_in_new ⟨_, #[], _, (Heap.get?_update_ne _ _ _ _ (Nat.ne_of_gt hxs)).trans (Heap.get?_push_at rfl rfl), rfl, fun e he => absurd he (by simp), fun _ => rfl⟩ fun h' tk' hn hs => ?_
  refine h s.heap.objs.size h' tk' (fun b o hb ho => ?_) (Nat.le_refl _) (Nat.ne_of_gt hxs) ?_ hn
  · exact (hs.2 b (Nat.ne_of_lt (Heap.lt_size ho))).trans ((Heap.get?_update_ne _ _ _ _ hb).trans (Heap.get?_push_of_some _ ho))
  · exact (hs.2 x (Nat.ne_of_lt hxs)).trans (Heap.get?_update_self _ hpu rfl)
theorem xi_init {u e t : Addr} {rest : List Value} {Q : Value → Shared → Prop} (FB : ExcBaseFacts B newId initId bmB) (X : K.In s.heap) (q : excInitIn K C bmB newId = true) (hu : s.heap.get? u = some (kxs_mw initId e)) (he : s.heap.get? e = some (excObj C t none .none))
    (hz : rest.length ≤ sizeLine) (h : ∀ (h' : Heap) (t' : Addr), (∀ b o, b ≠ e → s.heap.get? b = some o → h'.get? b = some o) → h'.get? e = some (excObj C t' none .none) → Q .none { s with heap := h' }) :
    wpAny (model prog w) A (call (.ref u) rest) Q E s := by
  obtain ⟨nm, N', qn, bs, bm, hdct, sn, sub, ab, col, dd, k0, k1, k2, k3, k5, hC, hT⟩ := excInit_of X q
  obtain ⟨hh, g, d, tk, os⟩ := s
  refine wpAny_call (codeAny_of_tree ?_)
  show wpAny _ A.in1 (callAny (.ref u) ⟨rest, []⟩) _ _ _
  simp only [callAny]
  refine wpAny_bind (wpAny_load hu ?_)
  simp only [kxs_mw]
  refine KFB.if_so (by decide) ?_
  refine wpAny_bind (check_bound_init FB.toExcCallFacts hC he rfl (wpAny_bind (wpAny_pure (wpAny_pure ⟨plainId_quiet FB.init.plain _, codeAny_builtin FB.initEntry ?_⟩))))
  exact exc_init_tree (cls := .ref C) (t0 := t) (dv := none) (c2 := .none) (c3 := .none) (b4 := .bool false) he hz fun h' k e' _ => h h' _ k e'
theorem xi_super {body : List Stmt} {q : PySem.Str} {scope : Scope} {p0 p1 : Pos} {attr : PySem.Str} {whole : Sem Value} {fd : FuncData} {ar : Arg} {vs : Array Value} {file : PySem.Str} {tf : Tok} {oc ccl cl : Value} {od cdd cld : Option Addr} {osl ccs csl : Array (Option Value)} {cdD : ClassData}
    {f cc cda L D x t : Addr} {m mg mb : PySem.Str → Option Value} {Q : Value → Shared → Prop} (X : K.In s.heap) (hns : s.heap.Ns L m) (hg : s.heap.Ns mainGlobals mg) (hb : s.heap.Ns builtinsNs mb) (hbb : ∀ y : PySem.Str, y ≠ "__name__" → mb y = bootBuiltins y)
    (hf : K.lookup f = some ⟨oc, od, .func fd, osl⟩) (hp : (fd.params.posonlyargs ++ fd.params.args).head? = some ar) (hv : m ar.arg = some (.ref x)) (hx : s.heap.get? x = some (excObj C t none .none))
    (hcode : K.lookup cda = some ⟨ccl, cdd, .fields vs, ccs⟩) (hvs : vs[2]? = some (.str file tf)) (hfile : ((prog.main.file : PySem.Str) == file) = true)
    (hcell : K.lookup cc = some ⟨cl, cld, .cell (some (.ref D)), csl⟩) (hD : clsIn K D = some cdD) (hsub : mroIn K C (.ref D) = some true) (hsuper : mg "super" = none)
    (hat : (attr == ("__class__" : PySem.Str)) = false) (hks : scope.names.lookup ("super" : PySem.Str) = some .globalImplicit) (hkc : scope.names.lookup ("__class__" : PySem.Str) = some .free) (hka : scope.names.lookup ar.arg = some .local) (hk : scope.kind = .function)
    (htop : (prog.main.scope.names.lookup ("super" : PySem.Str)).isSome = false)
    (h : ∀ so h', h'.get? so = some (ks_superObj D x C) → (∀ b o, s.heap.get? b = some o → h'.get? b = some o) → Q (.ref so) { s with heap := h' }) :
    _root_.PySem.wpAt (model prog w) A (.func body (ksEnv q scope L f (.ref cda) cc)) (attributeBase (.Call (.Name "super" p0) [] [] p1) attr (ksEnv q scope L f (.ref cda) cc) whole) Q E s := by
  obtain ⟨hh, g, d, tk, os⟩ := s
  obtain ⟨oD, hD1, hD2⟩ : ∃ oD, hh.get? D = some oD ∧ oD.data = .cls cdD := by
    unfold clsIn at hD
    split at hD
    · rename_i c d cd' sl ho
      cases hD
      exact ⟨_, X _ _ ho, rfl⟩
    · cases hD
  refine ks_wpAt_super_base (env := ksEnv q scope L f (.ref cda) cc) hks hkc hat rfl (X _ _ hf) rfl hp rfl (X _ _ hcode) rfl hvs hfile htop ?_
  refine ks_loadName_global hk hks (loadGlobal_builtin (env := ksEnv q scope L f (.ref cda) cc) hg hsuper hb ((hbb _ (by decide +kernel)).trans PyProof.Rows.Boot.«super») ⟨rfl, ?_⟩)
  refine wpAny_loadName_free hk hkc rfl ⟨_, X _ _ hcell, rfl⟩ ?_
  refine wpAny_loadName_local hk hka hns hv ?_
  refine ks_wpAny_isType_cls hD1 hD2 ⟨rfl, ?_⟩
  exact ks_wpAny_call_super hD1 hD2 hx rfl (fun c e => by cases e) (looks_mroIn X hsub) (fun h' e k => h _ h' e k)
end

structure XinS (st : Stmt) (slf vn f : PySem.Str) : Prop where
  body : ∃ (m : PySem.Str) (j : Nat) (p0 p1 p2 p3 p4 p5 p6 p7 p8 p9 : Pos), L2.defBody st = [.Expr (.Call (.Attribute (.Call (.Name "super" p0) [] [] p1) "__init__" p2) [.Constant (.str m) j p3] [] p4) p5,
    .Assign [.Attribute (.Name slf p6) f p7] (.Name vn p8) p9] ∧
    (∀ env : Env, eval (.Call (.Attribute (.Call (.Name "super" p0) [] [] p1) "__init__" p2) [.Constant (.str m) j p3] [] p4) env = (do
      let ov ← attributeBase (.Call (.Name "super" p0) [] [] p1) "__init__" env (eval (.Call (.Name "super" p0) [] [] p1) env)
      standAt p2.atName
      let (f, first) ← holding [ov] (getMethod ov "__init__" (do return (← importBound (.Call (.Name "super" p0) [] [] p1) env).getD true))
      callWith p4 f first (backTo p4 (starEach [.Constant (.str m) j p3] env)) [])) ∧
    ∀ env : Env, swapsWith (.Name vn p8) (some (.Attribute (.Name slf p6) f p7)) p9.line env = pure false
  par : ∃ ar, ((L2.defArgs st).posonlyargs ++ (L2.defArgs st).args).head? = some ar ∧ ar.arg = slf
  bind : ∀ (nm q : PySem.Str) (kV doc pm : Value) (an : Option Addr) (cdv ct : Value) (cc : Addr) (u v : Value), bindArgs (ksFn nm q (L2.defArgs st) (L2.defBody st) (L2.defScope st) .none kV doc pm an cdv ct cc) ⟨[u, v], []⟩ = pure [(slf, u), (vn, v)]
  sup : (L2.defScope st).names.lookup ("super" : PySem.Str) = some .globalImplicit
  cls : (L2.defScope st).names.lookup ("__class__" : PySem.Str) = some .free
  hslf : (L2.defScope st).names.lookup slf = some .local
  hvn : (L2.defScope st).names.lookup vn = some .local
  ne : slf ≠ vn
  nc : ∀ x ∈ (L2.defScope st).names, x.2 ≠ .cell
  co : (L2.defScope st).isCoroutine = false
  gen : (L2.defScope st).isGenerator = false
  kind : (L2.defScope st).kind = .function
  nd1 : (slf == ("__debug__" : PySem.Str)) = false
  nd2 : (vn == ("__debug__" : PySem.Str)) = false
structure XinK (P : Program) (K : Frag) (C fI : Addr) (f : PySem.Str) (st : Stmt) (B newId initId : String) (bmB : List Value) : Prop where
  FB : ExcBaseFacts B newId initId bmB
  SF : StoreFacts B bmB "object.__setattr__" "object"
  KF : KxsFacts B initId
  q : excInitIn K C bmB newId = true
  ov : excOver K C bmB = true
  tk : takerIn K C f = some none
  hd : hasDictIn K C = true
  sa : findIn K (.ref C) "__setattr__" = some (some (.builtin "object.__setattr__"))
  op : nsIn K cStatics "thirdparty.any" = some none
  sup : ks_superIn K C C "__init__" = some (some (.builtin initId))
  sub : subIn K (.ref C) (.type B) = some true
  self : mroIn K C (.ref C) = some true
  ini : findIn K (.ref C) "__init__" = some (some (.ref fI))
  fty : typeIn K (.ref fI) = some (.type "function")
  fn : ∃ (oc : Value) (od : Option Addr) (nm qual : PySem.Str) (kV doc pm : Value) (an : Option Addr) (cda cc : Addr) (ct : Value) (osl : Array (Option Value)),
    K.lookup fI = some ⟨oc, od, .func (ksFn nm qual (L2.defArgs st) (L2.defBody st) (L2.defScope st) .none kV doc pm an (.ref cda) ct cc), osl⟩ ∧ codeIn K (.ref cda) qual = true ∧
    (∃ (cl : Value) (cld : Option Addr) (csl : Array (Option Value)), K.lookup cc = some ⟨cl, cld, .cell (some (.ref C)), csl⟩) ∧
    ∃ (ccl : Value) (cdd : Option Addr) (vs : Array Value) (ccs : Array (Option Value)) (file : PySem.Str) (tf : Tok), K.lookup cda = some ⟨ccl, cdd, .fields vs, ccs⟩ ∧ vs[2]? = some (.str file tf) ∧ ((P.main.file : PySem.Str) == file) = true
  top : (P.main.scope.names.lookup ("super" : PySem.Str)).isSome = false
section
variable {P : Program} {w : World} {A : Around} {s : Shared} {K : Frag} {C fI : Addr} {f slf vn : PySem.Str} {st : Stmt} {B newId initId : String} {bmB : List Value}
theorem clsIn_of {K : Frag} {C : Addr} {bmB : List Value} {n : String} (q : excInitIn K C bmB n = true) : ∃ cd, clsIn K C = some cd := by
  unfold excInitIn at q
  split at q
  · rename_i dd cd sl ho
    exact ⟨cd, by unfold clsIn; rw [ho]⟩
  · cases q
theorem xi_run (T : XinK P K C fI f st B newId initId bmB) (S : XinS st slf vn f) {mg mb : PySem.Str → Option Value} (hroom : A.depth < recursionLimit) (X : K.In s.heap) (hg : s.heap.Ns mainGlobals mg) (hb : s.heap.Ns builtinsNs mb) (hbb : ∀ y : PySem.Str, y ≠ "__name__" → mb y = bootBuiltins y)
    (lim : s.heap.NoLimit) (hsuper : mg "super" = none) {e t : Addr} {v : Value} (he : s.heap.get? e = some (excObj C t none .none)) (hKe : ∀ b o, K.lookup b = some o → b ≠ e) {R : Result → Shared → Prop}
    (h : ∀ (dx t' : Addr) (h' : Heap) (tk : Nat), (∀ b o, b ≠ e → s.heap.get? b = some o → h'.get? b = some o) → s.heap.objs.size ≤ dx → dx ≠ e → h'.get? e = some (excObj C t' (some dx) .none) → h'.Ns1 dx (fun y => if y = f then some v else none) → R (.ok (.ret .none)) { s with heap := h', toks := tk }) :
    codeAny (model P w) A (.call (.ref fI) ⟨[.ref e, v], []⟩) R s := by
  obtain ⟨oc, od, nm, qual, kV, doc, pm, an, cda, cc, ct, osl, lk, hcd, ⟨cl, cld, csl, hcell⟩, ccl, cdd, vs, ccs, file, tf, hcode, hvs, hfile⟩ := T.fn
  obtain ⟨m, j, p0, p1, p2, p3, p4, p5, p6, p7, p8, p9, hbody, hev, hsw⟩ := S.body
  obtain ⟨ar, hpar, har⟩ := S.par
  obtain ⟨cd, hcl⟩ := clsIn_of T.q
  refine ks_codeAny_call_defAt (fd := ksFn nm qual (L2.defArgs st) (L2.defBody st) (L2.defScope st) .none kV doc pm an (.ref cda) ct cc) (body := L2.defBody st) (binds := [(slf, .ref e), (vn, v)]) hroom (X _ _ lk) rfl lim (codeRec_of X hcd) rfl (.of_eq (S.bind ..)) S.nc
    (fun y hy => by
      rcases List.mem_cons.mp hy with rfl | hy
      · exact S.hslf
      · rcases List.mem_cons.mp hy with rfl | hy
        · exact S.hvn
        · cases hy) (fun h₁ hns kp => ?_) S.co S.gen S.kind
  have X1 : K.In h₁ := X.keeps kp
  have l1 : List.lookup slf ([(slf, Value.ref e), (vn, v)] : List (PySem.Str × Value)).reverse = some (.ref e) := by
    show List.lookup slf [(vn, v), (slf, Value.ref e)] = _
    have z : (slf == vn) = false := beq_false_of_ne S.ne
    simp [List.lookup, z]
  have l2 : List.lookup vn ([(slf, Value.ref e), (vn, v)] : List (PySem.Str × Value)).reverse = some v := by
    show List.lookup vn [(vn, v), (slf, Value.ref e)] = _
    simp [List.lookup]
  rw [hbody]
  have I2 : ∀ {h2 : Heap}, h2.get? e = some (excObj C t none .none) → InstAt h2 e (excObj C t none .none) C none := fun q => ⟨q, rfl, rfl, trivial⟩
  refine ks_wpAt_execs_cons (ks_wpAt_Expr_any (ks_wpAt_MethodCall (xi_super (s := ⟨h₁, _, _, _, _⟩) (prog := P) X1 hns (hg.keeps kp) (hb.keeps kp) hbb lk hpar (by rw [har]; exact l1) (kp _ _ he) hcode hvs hfile hcell hcl T.self hsuper rfl S.sup S.cls (by rw [har]; exact S.hslf) S.kind T.top fun so h2 hso k2 => ?_) (hev _)) (hi := (by unfold interactive; rw [show (callEnv (ksFn nm qual (L2.defArgs st) _ (L2.defScope st) .none kV doc pm an (.ref cda) ct cc) s.heap.objs.size fI).scope.kind = .function from S.kind]; rfl)))
  have X2 : K.In h2 := X1.keeps k2
  have he2 := k2 _ _ (kp _ _ he)
  refine kxs_getMethod (K := K) T.KF hso (looks_opaque X2 T.op) (l₀ := cd.mro) (fun A Q E s k q => wpAny_bind ((looks_clsIn X2 hcl) A _ E s k (wpAny_pure q))) rfl X2 (by have z := T.sup; unfold ks_superIn at z; rw [hcl] at z; exact z) ((I2 he2).type.andThen (looks_subIn X2 T.sub)) (ks_ne X2 (I2 he2) hcl) rfl ?_
  refine kxs_callWith (i := initId) (x := e) rfl ?_
  refine evalArgs_plain (spliced_cons (Calls.Constant_str (k := j) (pos := p3) (spliced_nil ⟨Heap.get?_push_size _ rfl, ?_⟩)))
  refine xi_init T.FB (X2.keeps fun b o q => Heap.get?_push_of_some _ q) T.q (Heap.get?_push_size _ rfl) (Heap.get?_push_of_some _ he2) (by show 1 ≤ sizeLine; rw [sizeLine_eq]; omega) fun h3 t3 k3 he3 => ?_
  have keep3 : ∀ b o, b ≠ e → h₁.get? b = some o → h3.get? b = some o := fun b o hb q => k3 b o hb (Heap.get?_push_of_some _ (k2 b o q))
  have K3 : K.In h3 := fun b o q => keep3 b o (hKe b o q) (X1 b o q)
  have hL : s.heap.objs.size ≠ e := Nat.ne_of_gt (Heap.lt_size he)
  have hns3 : h3.Ns s.heap.objs.size fun x => List.lookup x ([(slf, Value.ref e), (vn, v)] : List (PySem.Str × Value)).reverse := by
    obtain ⟨oL, es, ep, q1, q2⟩ := hns
    exact ⟨oL, es, ep, keep3 _ _ hL q1, q2⟩
  refine ks_wpAt_execs_cons (ks_wpAt_Assign_Attr (wpAt_of_wpAny (wpAny_Name (wpAny_loadName_local S.kind S.hvn hns3 l2 (wpAny_Name (wpAny_loadName_local S.kind S.hslf hns3 l1 ?_) S.nd1)) S.nd2)) (hsw _))
  refine xi_store (s := ⟨h3, _, _, _, _⟩) T.SF K3 he3 T.ov T.tk T.hd T.sa fun dx h4 tk k4 hsz ne he4 hn4 => ?_
  refine wpAt_of_wpAny (wpAny_execs_nil ?_)
  refine h dx t3 h4 tk (fun b o hb q => k4 b o hb (keep3 b o hb (kp b o q))) ?_ ne he4 hn4
  have q := Heap.lt_size (keep3 _ _ hL hns.choose_spec.choose_spec.choose_spec.1)
  exact Nat.le_trans (Nat.le_of_lt q) hsz
end
end DxR

namespace Dx
open PySem PySem.Spec PyProof.Rows L2

def XinOk (P : Program) (K : PySem.W.Frag) (C : Addr) (f : Str) : Prop :=
  ∃ (fI : Addr) (st : Stmt) (slf vn : Str) (B newId initId : String) (bmB : List Value), DxR.XinK P K C fI f st B newId initId bmB ∧ DxR.XinS st slf vn f ∧ PySem.W.keepIn K (.ref C) = true ∧ PySem.W.subIn K (.ref C) (.type "BaseException") = some true ∧ PySem.W.typeIn K (.ref C) = some (.type "type")
section
variable {X : Cx} {C : Addr} {f x : Str} {e : Expr} {te : TE} {p pos : Pos} {k : Nat}
theorem pmk_xin (T : XinOk X.prog X.K C f) (hsu : X.mg "super" = none) (hr : Room (k + 1) X.A) (hg : Gl X x) (hm : X.mg x = some (.ref C)) (he : PE X e te)
    (hdb : (x == ("__debug__" : Str)) = false := by decide) (hs : starEach [e] X.env = (false, eval e X.env) :: starEach [] X.env := by rfl) :
    PMk X (.Call (.Name x p) [e] [] pos) (fun σ H Q => te σ H fun v H1 => ∀ d, H1 d = none → Q (.ref C) (some d) (upd H1 d (.xd [(f, v)]))) := by
  intro pins s σ H Q I h
  obtain ⟨fI, st, slf, vn, B, newId, initId, bmB, T, S, kC, eC, tC⟩ := T
  refine wpAny_Call_Name_kw (ld_glob I hg hm ?_ hdb)
  have h' : tCons te tNil σ H (fun vs H1 => match vs with | [v] => ∀ d, H1 d = none → Q (.ref C) (some d) (upd H1 d (.xd [(f, v)])) | _ => False) := h
  refine PySem.W.callWith_K (h₀ := X.base) I.ok.mod.kin kC (thn ((pa_cons he pa_nil hs).run pos pins s σ H _ I h') fun us s1 ⟨vs, H1, I1, r1, q⟩ => ⟨I1.kIn, ?_⟩) hs rfl
  cases r1 with
  | nil => exact q.elim
  | @cons v u vs2 us2 rv rest =>
    cases rest with
    | cons _ _ => exact q.elim
    | nil =>
      have q : ∀ d, H1 d = none → Q (.ref C) (some d) (upd H1 d (.xd [(f, v)])) := q
      obtain ⟨nm, N', qn, bs, bm, hdct, sn, sub, ab, col, dd, k0, k1, k2, k3, k5, hC, hT⟩ := PySem.W.excInit_of I1.kIn T.q
      obtain ⟨hp, g, dr, tk, os⟩ := s1
      show wpAny _ _ (call (.ref C) [u]) _ _ _
      have up : ∀ b o, hp.get? b = some o → ((hp.push (PySem.W.kdv_tup [u])).push (PySem.HandSPX.excO C hp.objs.size)).get? b = some o := fun b o e => Heap.get?_push_of_some _ (Heap.get?_push_of_some _ e)
      have hget : ((hp.push (PySem.W.kdv_tup [u])).push (PySem.HandSPX.excO C hp.objs.size)).get? (hp.objs.size + 1) = some (PySem.HandSPX.excO C hp.objs.size) := by heap_get
      have ne : ∀ {b : Addr} {o : Obj}, hp.get? b = some o → b ≠ hp.objs.size + 1 := fun {b o} e => Nat.ne_of_lt (Nat.lt_succ_of_lt (Heap.lt_size e))
      have KX : X.K.In hp := I1.kIn
      refine wpAny_call (PySem.HandSPX.call_own T.FB hT hC (PySem.W.looks_findIn KX T.ini) (fun self => PySem.W.bind_fn KX self T.fty) (by show 1 ≤ sizeLine; rw [sizeLine_eq]; omega) ?_)
      have bk : ∀ b o, X.base.get? b = some o → ((hp.push (PySem.W.kdv_tup [u])).push (PySem.HandSPX.excO C hp.objs.size)).get? b = some o := fun b o e => up b o (I1.bk b o e)
      obtain ⟨mb, hmb, hbb⟩ := I1.mod.blt
      refine DxR.xi_run (P := X.prog) (mg := X.mg) (mb := mb) T S (hr.make C [u] []).depth (KX.keeps up) (I1.mod.glob.keeps bk) (hmb.keeps bk) hbb (I1.mod.nolimit.keeps bk) hsu hget (fun b o e => ne (KX b o e)) fun dx t' h' tk' k hsz hne he' hn => ?_
      obtain ⟨G, g1, g2⟩ := L2.restrict h' fun b => decide (b ≠ hp.objs.size + 1)
      have gk : ∀ b, b ≠ hp.objs.size + 1 → G.get? b = h'.get? b := fun b hb => g1 b (decide_eq_true hb)
      have ge : G.get? (hp.objs.size + 1) = none := g2 _ (by simp)
      have hdx : hp.objs.size ≤ dx := Nat.le_trans (by rw [Heap.size_push, Heap.size_push]; omega) hsz
      have nd : H1 dx = none := I1.hok.fresh hdx
      have na : H1 (hp.objs.size + 1) = none := I1.hok.fresh (Nat.le_succ _)
      have J : L2.Inv X pins σ (upd H1 dx (.xd [(f, v)])) ⟨G, g, dr, tk', os⟩ := I1.laid (t' := tk') (h' := G) (fun b o e => (gk b (ne e)).trans (k b o (ne e) (up b o e))) hdx (by
        refine ⟨_, hn.at fun o z => (gk dx hne).trans z, fun y => ?_⟩
        show L2.RelO (List.lookup y [(f, v)]) (if y = f then some u else none)
        by_cases z : y = f
        · subst z
          rw [if_pos rfl]
          simp only [List.lookup, beq_self_eq_true]
          exact rv
        · rw [if_neg z]
          have z2 : (y == f) = false := beq_false_of_ne z
          simp only [List.lookup, z2]
          trivial)
      exact ⟨rfl, hp.objs.size + 1, _, _, ⟨G, g, dr, tk', os⟩, _, .ref C, some dx, rfl, J, fun b o e => by
        by_cases z : b = hp.objs.size + 1
        · rw [z, ge] at e
          cases e
        · exact (gk b z).symm.trans e, ge, he', ⟨rfl, rfl⟩, rfl, rfl, by rw [upd_ne (Ne.symm hne)]; exact na, rfl, I1.bare, L2.raises_own eC tC, q dx nd⟩
end
def zRaise (n : Nat) (fe : LSt → Res D) : LSt → Fl := fun l => (fe l).toFl fun d l => .ex ⟨n, [d]⟩ l
def zRaise0 (n : Nat) : LSt → Fl := fun l => .ex ⟨n, []⟩ l
structure Xe1 (P : Program) (K : PySem.W.Frag) (mg : Str → Option Value) (cn : Cn) (x : Str) (n : Nat) : Prop where
  m : mg x = some (.ref (cn.cA n))
  s : mg "super" = none
  o : XinOk P K (cn.cA n) (cn.xf n)
structure Xe0 (K : PySem.W.Frag) (mg : Str → Option Value) (cn : Cn) (x : Str) (n : Nat) : Prop where
  m : mg x = some (.ref (cn.cA n))
  o : ∃ (B newId initId : String) (bmB : List Value), ExcBaseFacts B newId initId bmB ∧ PySem.W.excIn K (cn.cA n) bmB newId = true ∧ PySem.W.keepIn K (.ref (cn.cA n)) = true ∧ PySem.W.subIn K (.ref (cn.cA n)) (.type "BaseException") = some true ∧ PySem.W.typeIn K (.ref (cn.cA n)) = some (.type "type")
section
variable {X : Cx} {c : Ac} {W : WX} {cn : Cn} {k : Nat} {x m : Str} {e : Expr} {fe : LSt → Res D} {p p1 pos pos' : Pos} {n j : Nat}
theorem s_raise (Z : Ctx X c W cn (k + 1)) (T : Xe1 X.prog X.K X.mg cn x n) (he : DE X c W e fe) (hg : Gl X x := by rfl) (hdb : (x == ("__debug__" : Str)) = false := by decide) (hs : starEach [e] X.env = (false, eval e X.env) :: starEach [] X.env := by rfl) :
    DS X c W (.Raise (some (.Call (.Name x p) [e] [] pos)) none pos') (zRaise n fe) :=
  ⟨(ps_raise Z.calm Z.tk (pmk_xin (k := k) T.o T.s Z.hr hg T.m he.pe hdb hs)).imp' fun D σ H ⟨Hf, l, R, h⟩ => to_bind R h fun d l1 v H1 Hf1 R1 s1 r1 h1 dx nd =>
    h1 _ _ _ _ _ (R1.alloc nd) (same_upd (R1.free nd)) ⟨by rw [Z.hc], .inr ⟨d, dx, v, rfl, rfl, by rw [upd_same, Z.hc], r1.mono (same_upd (R1.free nd))⟩⟩⟩
theorem s_raise0 (Z : Ctx X c W cn k) (T : Xe0 X.K X.mg cn x n) (hg : Gl X x := by rfl) (hdb : (x == ("__debug__" : Str)) = false := by decide) :
    DS X c W (.Raise (some (.Call (.Name x p) [.Constant (.str m) j p1] [] pos)) none pos') (zRaise0 n) := by
  obtain ⟨B, newId, initId, bmB, F, q, kC, eC, tC⟩ := T.o
  exact ⟨(ps_raise Z.calm Z.tk (pmk_own F q T.m kC (raises_own eC tC) hg hdb)).imp' fun D σ H ⟨Hf, l, R, h⟩ => h _ _ _ _ _ R (Same.refl _) ⟨by rw [Z.hc], .inl rfl⟩⟩
end
end Dx

namespace Dx
open PySem PySem.Spec PyProof.Rows L2

section
variable {c : Ac} {Hf H : Hp} {σ : L2.St} {l : LSt}
end

section
variable {X : Cx} {pins : List (Addr × Obj)} {σ : L2.St} {H : Hp} {s : Shared} {c P : Addr} {ps : Array Value} {params : Arguments} {body : Expr} {scope : Scope} {pos : Pos} {E Q : Value → Shared → Prop}
end

section
variable {X : Cx} {pins : List (Addr × Obj)} {σ : L2.St} {H1 : Hp} {s1 : Shared}
end

def sTk (i : Nat) (t : G → FR) : LSt → Res D := fun l => match l.sl[i]? with
  | some .fn => frRes l (t l.g)
  | _ => .bad
def mThk (n : Nat) (fb : (G → FR) → LSt → Fl) : (G → FR) → G → FR := fun t g => (fb t ⟨.fn :: List.replicate (n - 1) .un, g⟩).fr
section
variable {c : Ac} {W : WX} {Hf H : Hp} {σ : L2.St} {l : LSt}
theorem DiceOk.reFn {cn : Cn} {ad ad' : Ad} {Hf' H' : Hp} {g : G} (d : DiceOk cn Hf' H' ad g) (h1 : ad'.d = ad.d) (h2 : ad'.oa = ad.oa) (h3 : ad'.od = ad.od) : DiceOk cn Hf' H' ad' g := by
  refine ⟨fun x y z e => by rw [h1]; exact d.dc x y z e, fun n fs e => ?_, d.tb, d.tp⟩
  rw [h2, h3]
  obtain ⟨q1, q2, q3, q4, us, q5, q6, q7⟩ := d.obj n fs e
  exact ⟨q1, q2, q3, q4, us, q5, q6, fun i d e => by
    obtain ⟨v, e1, e2⟩ := q7 i d e
    exact ⟨v, e1, e2.re h1⟩⟩
end

structure ThkOk (P : Program) (w : World) (K : PySem.W.Frag) (mg : Str → Option Value) (base : Heap) (cn : Cn) (k : Nat) (x : Str) (m : (G → FR) → G → FR) : Prop where
  ex : ∃ (g : Addr) (fd : FuncData) (params : Arguments) (body : List Stmt) (scope : Scope) (Ng : List Str) (a : Str) (n : Nat) (fb : (G → FR) → LSt → Fl),
    FunD K x x params body scope [] [] g fd ∧ mg x = some (.ref g) ∧ L2.Binds K fd [a] [] ∧ FnScope Ng [a] scope ∧ Ng[0]? = some a ∧ Ng.length = n ∧ Vis scope a ∧ (a == ("__debug__" : Str)) = false ∧ (a == ("__classdict__" : Str)) = false ∧ m = mThk n fb ∧
    ∀ (cdv : Value) (A : Around) (outer : List Env) (s : Shared) (H : Hp) (E : XK) (c : Ac) (t : G → FR), Ctx (cxOf (L2.CX P w) P w K mg base Ng x scope g cdv A outer s H E) c (fun cls d _ H' => E cls d H') cn k →
      (∀ (W2 : WX) (pn : List (Addr × Obj)) (xe : Value → Shared → Prop) (p1 p2 : Pos), Takes ((cxOf (L2.CX P w) P w K mg base Ng x scope g cdv A outer s H E).tr pn xe) W2 →
        DE ((cxOf (L2.CX P w) P w K mg base Ng x scope g cdv A outer s H E).tr pn xe) c W2 (.Call (.Name a p1) [] [] p2) (sTk 0 t)) →
      DSs (cxOf (L2.CX P w) P w K mg base Ng x scope g cdv A outer s H E) c (fun cls d _ H' => E cls d H') body (fb t)
section
variable {X : Cx} {c : Ac} {W : WX} {cn : Cn} {k : Nat} {x q : Str} {m : (G → FR) → G → FR} {fe : LSt → Res D} {params : Arguments} {body : Expr} {scope : Scope} {p lpos pos : Pos} {cc P : Addr}
end
end Dx

namespace Dx
open PySem PySem.Spec PyProof.Rows L2

abbrev offN (D : Ends) (i : Nat) : Ends := { nx := fun σ H => D.nx (σ.set i none) H, rt := D.rt, bk := fun σ H => D.bk (σ.set i none) H, ct := fun σ H => D.ct (σ.set i none) H }
abbrev ClT := Value × Option Nat × (Addr → Value → Option Addr → TS)
def wCl (K : PySem.W.Frag) (Wout : WX) (D : Ends) : List ClT → WX
  | [] => Wout
  | (c, oi, ts) :: r => fun cls d σ H => ∃ b, PySem.W.exmOne K cls c = some b ∧
      (b = true → ∀ a, H a = none → match oi with
        | none => ts a cls d D σ H
        | some i => ts a cls d (offN D i) (σ.set i (some (.ref a))) H) ∧ (b = false → wCl K Wout D r cls d σ H)
abbrev SuOk (X : Cx) (ss : List Stmt) (ts : Addr → Value → Option Addr → TS) : Prop :=
  ∀ (a : Addr) (oe : Obj) (cls : Value) (d : Option Addr) (pn : List (Addr × Obj)), Zc cls d oe → (∃ vs, oe.data = .fields vs) → PSs (X.suite a ((a, oe) :: pn)) ss (ts a cls d)
inductive ClOk (X : Cx) : List ExceptHandler → List ClT → Prop
  | nil : ClOk X [] []
  | one {x : Str} {c : Value} {ts : Addr → Value → Option Addr → TS} {st : Stmt} {ss : List Stmt} {p1 p2 : Pos} {hds : List ExceptHandler} {l : List ClT} (hc : Names X x c) (hs : SuOk X (st :: ss) ts) (r : ClOk X hds l) :
      ClOk X (.ExceptHandler (some (.Name x p1)) none (st :: ss) p2 :: hds) ((c, none, ts) :: l)
  | nam {x n : Str} {i : Nat} {c : Value} {ts : Addr → Value → Option Addr → TS} {st : Stmt} {ss : List Stmt} {p1 p2 : Pos} {hds : List ExceptHandler} {l : List ClT} (hi : X.N[i]? = some n) (hl : X.env.kindOf n = some .local) (hc : Names X x c) (hs : SuOk X (st :: ss) ts)
      (r : ClOk X hds l) : ClOk X (.ExceptHandler (some (.Name x p1)) (some n) (st :: ss) p2 :: hds) ((c, some i, ts) :: l)
section
variable {X : Cx} {body : List Stmt} {h0 : ExceptHandler} {hds : List ExceptHandler} {l : List ClT} {pos : Pos} {tb : WX → TS} {Wout : WX}
theorem ps_tryC (est : X.stack = X.env :: X.outer) (efr : X.env.frame = some X.env.locals) (nd : X.N.Nodup) (tk : Takes X Wout)
    (hb : ∀ (W : WX) (pn : List (Addr × Obj)) (xe : Value → Shared → Prop), Takes (X.tr pn xe) W → PassesOwn (model X.prog X.w) X.A X.env xe → PSs (X.tr pn xe) body (tb W)) (hh : ClOk X (h0 :: hds) l) :
    PS X (.Try body (h0 :: hds) [] [] pos) (fun D σ H => tb (wCl X.K Wout D l) D σ H) := by
  refine ⟨fun pins s σ H D I h => wpAny_Try_except ?_⟩
  have ok := I.ok
  have efs : X.A.frames = some (X.env :: X.outer) := by rw [ok.frames, est]
  have J0 := I.toTry (fun e s₁ => wpAny (model X.prog X.w) X.A (noteFrame e X.env) (fun _ s₂ => wpAny (model X.prog X.w) X.A (setFlight e none) (fun _ s₃ => wpAny (model X.prog X.w) X.A (handleBy e X.env (h0 :: hds)) (SP X pins D) X.xe s₃) X.xe s₂) X.xe s₁)
  refine wpAny_mono ((hb (wCl X.K Wout D l) (X.pn ++ pins) _ (fun u s1 air => ?_) PassesOwn.looking).run [] s σ H D J0 h) (fun fl s1 q => ?_) (fun e s1 q => q)
  · obtain ⟨a, B, sI, ps', σ1, H1, cls, d, rfl, J', below, up, sky, an, eos, agens, wish⟩ := air
    have J : L2.Inv X pins σ1 H1 sI := J'.ofTry ok
    have sky2 : Sky B (X.env :: X.outer) a (Zc cls d) X.env.locals s1.heap := by rw [← est]; exact sky
    show wpAny (model X.prog X.w) X.A (noteFrame (.ref a) X.env) _ _ _
    refine Sky.land Zc.steady efs efr sky2 fun h2 fly up2 => ?_
    have up12 := up.trans up2
    have JA : L2.Inv X pins σ1 H1 { s1 with heap := h2 } := J.landed below fly.1 up12 eos agens
    obtain ⟨oe, vs, get, zc, dat⟩ := fly.there
    have apart : a ∉ frs (X.env :: X.outer) := fun hm => by
      obtain ⟨_, o', e', nf⟩ := fly.2.2.1.mem hm
      rw [get] at e'
      cases e'
      exact nf _ dat
    have aL : a ≠ X.env.locals := fun z => apart (List.mem_filterMap.mpr ⟨X.env, List.mem_cons_self, by rw [efr, z]⟩)
    have aF : a ∉ X.fs := fun hm => by
      obtain ⟨e, he, q⟩ := List.mem_filterMap.mp hm
      exact apart (List.mem_filterMap.mpr ⟨e, List.mem_cons_of_mem _ he, q⟩)
    have SA := JA.suite get dat an aL aF
    have tyA : PySem.W.Looks (model X.prog X.w) h2 (typeOf (.ref a)) cls := fun A Q E s k q => wpAny_typeOf_ref (k _ _ get) (by rw [zc.1]; exact q)
    have nameAt : ∀ {x : Str} {c : Value} {np : Pos} {Q : Value → Shared → Prop} {E : Value → Shared → Prop}, Names X x c → Q c { s1 with heap := h2 } → wpAny (model X.prog X.w) (X.A.mark (some (.ref a))) (eval (.Name x np) X.env) Q E { s1 with heap := h2 } := fun {x c np Q E} hc q => by
      obtain ⟨hg, hdb, hm | ⟨hm, hv, hn⟩⟩ := hc
      · exact ld_glob (X := X.suite a ((a, oe) :: (X.pn ++ pins))) SA hg hm q hdb
      · exact ld_blt (X := X.suite a ((a, oe) :: (X.pn ++ pins))) SA hg hm hv q hn hdb
    have enter : ∀ {Q : Shared → Prop} {E : Value → Shared → Prop} {A : Around}, (∀ h3 oe3, Zc cls d oe3 → (∃ vs, oe3.data = .fields vs) → L2.Inv (X.suite a ((a, oe3) :: (X.pn ++ pins))) [] σ1 H1 { s1 with heap := h3 } → Q { s1 with heap := h3 }) →
        wpAny (model X.prog X.w) A (setFlight (.ref a) none) (fun _ s' => Q s') E { s1 with heap := h2 } := fun {Q E A} hq => HandSPX.lands_againZ fly fun h3 fly3 up3 => by
      obtain ⟨oe3, vs3, get3, zc3, dat3⟩ := fly3.there
      have J3 : L2.Inv X pins σ1 H1 { s1 with heap := h3 } := J.landed below fly3.1 (up12.trans up3) eos agens
      exact hq h3 oe3 zc3 ⟨_, dat3⟩ (J3.suite get3 dat3 an aL aF)
    have walk : ∀ {hs' : List ExceptHandler} {l' : List ClT}, ClOk X hs' l' → wCl X.K Wout D l' cls d σ1 H1 → wpAny (model X.prog X.w) X.A (handleBy (.ref a) X.env hs') (SP X pins D) X.xe { s1 with heap := h2 } := by
      intro hs' l' k
      induction k with
      | nil =>
        intro w
        refine wpAny_handleBy_nil ?_
        obtain ⟨_, _, _, o5, v5, T, oT, ts, g5, z5, d5, n5, _⟩ := id fly
        unfold PySem.passOn
        refine wpAny_bind (wpAny_field g5 d5 n5 ?_)
        rw [if_neg (show ¬ ((Value.ref T == Value.none) = true) from by simp)]
        have off : wpAny (model X.prog X.w) X.A (setFlight (.ref a) X.env.frame) (fun _ s4 => wpAny (model X.prog X.w) X.A (throw (.ref a) : Sem Flow) (SP X pins D) X.xe s4) X.xe { s1 with heap := h2 } := by
          rw [efr]
          exact HandSPX.setFlight_upZ fly fun h4 held up4 => wpAny_throw (tk _ _ ⟨a, B, sI, pins, σ1, H1, cls, d, rfl, J, below, up12.trans up4, .inr (.inr (by rw [est]; exact held)), an, eos, agens, w⟩)
        first
          | exact wpAny_bind (wpAny_pure (wpAny_bind off))
          | exact wpAny_bind off
      | @one x c ts st ss p1 p2 hd2 l2 hc hs r ih =>
        intro w
        obtain ⟨b, eb, yes, no⟩ := w
        refine wpAny_handleBy_cons (codeAny_handlers_test (nameAt hc ((PySem.W.exm_one (M := model X.prog X.w) JA.kIn tyA eb).here ?_))) (by intro q; cases q)
        cases b with
        | false => exact ih (no rfl)
        | true =>
          refine codeAny_handlers_suite (enter fun h3 oe3 zc3 dat3 S3 => ?_)
          refine wpAny_mono ((hs a oe3 cls d (X.pn ++ pins) zc3 dat3).run [] _ _ H1 _ S3 (yes rfl a an)) (fun fl s6 q => ?_) (fun _ _ z => z.elim)
          cases fl with
          | next =>
            obtain ⟨σ6, H6, S6, q6⟩ := q
            exact ⟨_, _, S6.unsuite ok, q6⟩
          | brk =>
            obtain ⟨σ6, H6, S6, q6⟩ := q
            exact ⟨_, _, S6.unsuite ok, q6⟩
          | cont =>
            obtain ⟨σ6, H6, S6, q6⟩ := q
            exact ⟨_, _, S6.unsuite ok, q6⟩
          | ret u =>
            obtain ⟨v6, σ6, H6, S6, r6, q6⟩ := q
            exact ⟨_, _, _, S6.unsuite ok, r6, q6⟩
      | @nam x n i c ts st ss p1 p2 hd2 l2 hi hl hc hs r ih =>
        intro w
        obtain ⟨b, eb, yes, no⟩ := w
        refine wpAny_handleBy_cons (codeAny_handlers_test (nameAt hc ((PySem.W.exm_one (M := model X.prog X.w) JA.kIn tyA eb).here ?_))) (by intro q; cases q)
        cases b with
        | false => exact ih (no rfl)
        | true =>
          refine codeAny_handlers_suite_as (enter fun h3 oe3 zc3 dat3 S3 => ?_)
          refine store_ok (X := X.suite a ((a, oe3) :: (X.pn ++ pins))) (v := .ref a) S3 nd hi (.inl hl) rfl (fun s5 S5 => ?_) (.inr hl)
          refine wpAny_mono ((hs a oe3 cls d (X.pn ++ pins) zc3 dat3).run [] s5 _ H1 _ S5 (yes rfl a an)) (fun fl s6 q => ?_) (fun _ _ z => z.elim)
          cases fl with
          | next =>
            obtain ⟨σ6, H6, S6, q6⟩ := q
            exact gone_ok (S6.unsuite ok) nd hi hl fun s7 J7 => ⟨_, _, J7, q6⟩
          | brk =>
            obtain ⟨σ6, H6, S6, q6⟩ := q
            exact gone_ok (S6.unsuite ok) nd hi hl fun s7 J7 => ⟨_, _, J7, q6⟩
          | cont =>
            obtain ⟨σ6, H6, S6, q6⟩ := q
            exact gone_ok (S6.unsuite ok) nd hi hl fun s7 J7 => ⟨_, _, J7, q6⟩
          | ret u =>
            obtain ⟨v6, σ6, H6, S6, r6, q6⟩ := q
            exact gone_ok (S6.unsuite ok) nd hi hl fun s7 J7 => ⟨_, _, _, J7, r6, q6⟩
    exact walk hh wish
  · cases fl with
    | next =>
      obtain ⟨σ1, H1, J, q⟩ := q
      exact wpAny_execs_nil ⟨σ1, H1, J.ofTry ok, q⟩
    | brk =>
      obtain ⟨σ1, H1, J, q⟩ := q
      exact ⟨σ1, H1, J.ofTry ok, q⟩
    | cont =>
      obtain ⟨σ1, H1, J, q⟩ := q
      exact ⟨σ1, H1, J.ofTry ok, q⟩
    | ret u =>
      obtain ⟨v, σ1, H1, J, r, q⟩ := q
      exact ⟨v, σ1, H1, J.ofTry ok, r, q⟩
end

def noErS : Slot → Slot
  | .er _ _ => .un
  | s => s
def LSt.noEr (l : LSt) : LSt := { l with sl := l.sl.map noErS }
def Fl.noEx : Fl → Fl
  | .ex _ _ => .bad
  | f => f
def Fl.off (i : Nat) : Fl → Fl
  | .nx l => .nx (l.noEr.put i .un)
  | .rt e l => .rt e (l.noEr.put i .un)
  | .bk l => .bk (l.noEr.put i .un)
  | .ct l => .ct (l.noEr.put i .un)
  | _ => .bad
abbrev ClD := Nat × Option Nat × (LSt → Fl)
def onEx (tb : Nat → Nat → Option Bool) : List ClD → XC → LSt → Fl
  | [], x, l => .ex x l
  | (m, oi, fs) :: r, x, l => match tb x.c m with
    | some true => (match oi with
      | none => (fs l).noEx
      | some i => (match x.args with
        | [d] => if i < l.sl.length then (fs (l.noEr.put i (.er x.c d))).off i else .bad
        | _ => .bad))
    | some false => onEx tb r x l
    | none => .bad
def zTry (tb : Nat → Nat → Option Bool) (hs : List ClD) (b : LSt → Fl) : LSt → Fl := fun l => match b l with
  | .ex x l => onEx tb hs x l
  | f => f
def ExmOk (cn : Cn) (tb : Nat → Nat → Option Bool) : Prop := ∀ n m b, tb n m = some b → PySem.W.exmOne cn.K (.ref (cn.cA n)) (.ref (cn.cA m)) = some b
section
variable {c : Ac} {Hf H : Hp} {σ : L2.St} {l : LSt}
theorem noEr_get {l : LSt} {j : Nat} {s : Slot} (h : l.noEr.sl[j]? = some s) : (∀ n d, s ≠ .er n d) ∧ (isOwn s = true → l.sl[j]? = some s) ∧ ((s = .un ∧ ∃ s0, l.sl[j]? = some s0) ∨ l.sl[j]? = some s) := by
  have h : (l.sl.map noErS)[j]? = some s := h
  rw [List.getElem?_map, Option.map_eq_some_iff] at h
  obtain ⟨s0, e, h⟩ := h
  cases s0 <;> (simp only [noErS] at h; subst h)
  case er n d => exact ⟨(fun _ _ z => nomatch z), (fun z => nomatch z), .inl ⟨rfl, _, e⟩⟩
  all_goals exact ⟨(fun _ _ z => nomatch z), (fun _ => e), .inr e⟩
theorem RCO.re {cn : Cn} {ad ad' : Ad} (h : ad'.d = ad.d) {H : Hp} {o : HO} : ∀ {co : CO}, RCO cn ad H co o → RCO cn ad' H co o
  | .lst ds, ⟨vs, w1, w2⟩ => ⟨vs, w1, RVals.re h _ _ w2⟩
  | .dK ks ds, ⟨vs, w1, w2, w3⟩ => ⟨vs, w1, w2, RVals.re h _ _ w3⟩
  | .dT ks ds, ⟨vs, w1, w2, w3⟩ => ⟨vs, w1, w2, RVals.re h _ _ w3⟩
structure AcEq (c c' : Ac) : Prop where
  cn : c'.toCn = c.toCn
  hid : c'.hid = c.hid
  h0 : c'.Hf0 = c.Hf0
  gs : c'.gs = c.gs
  d : c'.ad.d = c.ad.d
  oa : c'.ad.oa = c.ad.oa
  od : c'.ad.od = c.ad.od
  fn : c'.ad.fn = c.ad.fn
theorem AcEq.symm {c c' : Ac} (e : AcEq c c') : AcEq c' c := ⟨e.cn.symm, e.hid.symm, e.h0.symm, e.gs.symm, e.d.symm, e.oa.symm, e.od.symm, e.fn.symm⟩
theorem AcEq.isd {c c' : Ac} (e : AcEq c c') {g : G} {a : Addr} : isD c'.toCn g c'.ad a ↔ isD c.toCn g c.ad a := by
  unfold isD
  rw [e.cn, e.d, e.oa, e.od]
theorem REnv.reAd {c' : Ac} (e : AcEq c c') (R : REnv c Hf σ H l) : REnv c' Hf σ H l.noEr where
  len := by
    show σ.length = (l.sl.map noErS).length
    rw [List.length_map]
    exact R.len
  slot := fun j s hj => by
    obtain ⟨n1, n2, n3⟩ := noEr_get hj
    rcases n3 with ⟨rfl, s0, h0⟩ | h0
    · obtain ⟨x, ex, _⟩ := R.slot j s0 h0
      exact ⟨x, ex, True.intro⟩
    · obtain ⟨x, ex, q⟩ := R.slot j s h0
      refine ⟨x, ex, ?_⟩
      cases s with
      | un => exact True.intro
      | v d =>
        obtain ⟨v, q1, q2⟩ := q
        exact ⟨v, q1, by rw [e.cn]; exact RVal.re e.d _ _ q2⟩
      | slf => exact (show x = some (.ref c.ad.oa) from q).trans (by rw [e.oa])
      | fn => exact (show x = some (.ref c.ad.fn) from q).trans (by rw [e.fn])
      | er n d => exact absurd rfl (n1 n d)
      | own co =>
        obtain ⟨a, o, q1, q2, q3, q4, q5, q6⟩ := q
        exact ⟨a, o, q1, q2, by rw [e.cn]; exact q3.re e.d, q4, by rw [e.hid]; exact q5, fun z => q6 (e.isd.mp z)⟩
  dis := fun i j s t a hi hj os ot ei ej => R.dis i j s t a ((noEr_get hi).2.1 os) ((noEr_get hj).2.1 ot) os ot ei ej
  sub := R.sub
  base := by rw [e.h0]; exact R.base
  frame := fun a o h => by
    rw [e.hid] at h
    obtain ⟨h1, h2, h3⟩ := R.frame a o h
    exact ⟨h1, h2, fun z => h3 (e.isd.mp z)⟩
  dice := by
    rw [e.cn]
    exact R.dice.reFn e.d e.oa e.od
  hgs := R.hgs.trans e.gs.symm
theorem REnv.clear (R : REnv c Hf σ H l) (i : Nat) : REnv c Hf (σ.set i none) H (l.put i .un) where
  len := by
    show (σ.set i none).length = (l.sl.set i .un).length
    rw [List.length_set, List.length_set]
    exact R.len
  slot := fun j s hj => by
    have hj : (l.sl.set i .un)[j]? = some s := hj
    by_cases e : j = i
    · subst e
      have hl : j < l.sl.length := by
        have := (List.getElem?_eq_some_iff.mp hj).1
        rwa [List.length_set] at this
      rw [List.getElem?_set_self hl] at hj
      cases hj
      exact ⟨none, List.getElem?_set_self (by rw [R.len]; exact hl), True.intro⟩
    · rw [List.getElem?_set_ne (Ne.symm e)] at hj
      obtain ⟨x, q1, q2⟩ := R.slot j s hj
      exact ⟨x, by rw [List.getElem?_set_ne (Ne.symm e)]; exact q1, q2⟩
  dis := fun j k s t a hj hk os ot ej ek => by
    have back : ∀ {m : Nat} {u : Slot}, (l.sl.set i .un)[m]? = some u → isOwn u = true → m ≠ i ∧ l.sl[m]? = some u := fun {m u} hm ou => by
      by_cases z : m = i
      · subst z
        have hl : m < l.sl.length := by
          have := (List.getElem?_eq_some_iff.mp hm).1
          rwa [List.length_set] at this
        rw [List.getElem?_set_self hl] at hm
        cases hm
        cases ou
      · rw [List.getElem?_set_ne (Ne.symm z)] at hm
        exact ⟨z, hm⟩
    obtain ⟨n1, h1⟩ := back hj os
    obtain ⟨n2, h2⟩ := back hk ot
    rw [List.getElem?_set_ne (Ne.symm n1)] at ej
    rw [List.getElem?_set_ne (Ne.symm n2)] at ek
    exact R.dis j k s t a h1 h2 os ot ej ek
  sub := R.sub
  base := R.base
  frame := R.frame
  dice := R.dice
  hgs := R.hgs
theorem REnv.setEr (R : REnv c Hf σ H l) {i n : Nat} {d : D} (r : RErr c.toCn c.ad Hf n d (some (.ref c.ad.er))) : REnv c Hf (σ.set i (some (.ref c.ad.er))) H (l.put i (.er n d)) where
  len := by
    show (σ.set i _).length = (l.sl.set i _).length
    rw [List.length_set, List.length_set]
    exact R.len
  slot := fun j s hj => by
    have hj : (l.sl.set i (.er n d))[j]? = some s := hj
    by_cases e : j = i
    · subst e
      have hl : j < l.sl.length := by
        have := (List.getElem?_eq_some_iff.mp hj).1
        rwa [List.length_set] at this
      rw [List.getElem?_set_self hl] at hj
      cases hj
      exact ⟨_, List.getElem?_set_self (by rw [R.len]; exact hl), r⟩
    · rw [List.getElem?_set_ne (Ne.symm e)] at hj
      obtain ⟨x, q1, q2⟩ := R.slot j s hj
      exact ⟨x, by rw [List.getElem?_set_ne (Ne.symm e)]; exact q1, q2⟩
  dis := fun j k s t a hj hk os ot ej ek => by
    have back : ∀ {m : Nat} {u : Slot}, (l.sl.set i (.er n d))[m]? = some u → isOwn u = true → m ≠ i ∧ l.sl[m]? = some u := fun {m u} hm ou => by
      by_cases z : m = i
      · subst z
        have hl : m < l.sl.length := by
          have := (List.getElem?_eq_some_iff.mp hm).1
          rwa [List.length_set] at this
        rw [List.getElem?_set_self hl] at hm
        cases hm
        cases ou
      · rw [List.getElem?_set_ne (Ne.symm z)] at hm
        exact ⟨z, hm⟩
    obtain ⟨n1, h1⟩ := back hj os
    obtain ⟨n2, h2⟩ := back hk ot
    rw [List.getElem?_set_ne (Ne.symm n1)] at ej
    rw [List.getElem?_set_ne (Ne.symm n2)] at ek
    exact R.dis j k s t a h1 h2 os ot ej ek
  sub := R.sub
  base := R.base
  frame := R.frame
  dice := R.dice
  hgs := R.hgs
end

inductive DHs (X : Cx) (c : Ac) : List ExceptHandler → List ClD → Prop
  | nil : DHs X c [] []
  | one {x : Str} {m : Nat} {fs : LSt → Fl} {st : Stmt} {ss : List Stmt} {p1 p2 : Pos} {hds : List ExceptHandler} {l : List ClD} (hc : Names X x (.ref (c.cA m)))
      (hs : ∀ (a : Addr) (pn : List (Addr × Obj)), DSs (X.suite a pn) c W0 (st :: ss) fs) (r : DHs X c hds l) : DHs X c (.ExceptHandler (some (.Name x p1)) none (st :: ss) p2 :: hds) ((m, none, fs) :: l)
  | nam {x n : Str} {i m : Nat} {fs : LSt → Fl} {st : Stmt} {ss : List Stmt} {p1 p2 : Pos} {hds : List ExceptHandler} {l : List ClD} (hi : X.N[i]? = some n) (hl : X.env.kindOf n = some .local) (hc : Names X x (.ref (c.cA m)))
      (hs : ∀ (a : Addr) (oe : Obj) (pn : List (Addr × Obj)) (c' : Ac), AcEq c c' → c'.ad.er = a → Zc c'.ad.ec (some c'.ad.ed) oe → (∃ vs, oe.data = .fields vs) → DSs (X.suite a ((a, oe) :: pn)) c' W0 (st :: ss) fs) (r : DHs X c hds l) :
      DHs X c (.ExceptHandler (some (.Name x p1)) (some n) (st :: ss) p2 :: hds) ((m, some i, fs) :: l)
def tsOf (c : Ac) : ClD → ClT
  | (m, none, fs) => (.ref (c.cA m), none, fun _ _ _ => tS c W0 fs)
  | (m, some i, fs) => (.ref (c.cA m), some i, fun a cls d => fun D σ H => ∃ c' : Ac, AcEq c c' ∧ c'.ad.er = a ∧ c'.ad.ec = cls ∧ d = some c'.ad.ed ∧ tS c' W0 fs D σ H)
theorem clOk {X : Cx} {c : Ac} {hds : List ExceptHandler} {l : List ClD} (h : DHs X c hds l) : ClOk X hds (l.map (tsOf c)) := by
  induction h with
  | nil => exact .nil
  | one hc hs r ih => exact .one hc (fun a oe cls d pn _ _ => (hs a ((a, oe) :: pn)).pss) ih
  | @nam x n i m fs st ss p1 p2 hds l hi hl hc hs r ih =>
    refine .nam hi hl hc (fun a oe cls d pn z dat => ⟨fun ps s σ H D I h => ?_⟩) ih
    obtain ⟨c', e, ea, ec, ed, h⟩ := h
    subst ec ed
    exact (hs a oe pn c' e ea z dat).pss.run ps s σ H D I h
section
variable {c : Ac} {W : WX} {D : Ends} {tb : Nat → Nat → Option Bool}
theorem wpF_noEx {Hf : Hp} : ∀ {fl : Fl}, wpF c W D Hf fl.noEx → wpF c W0 D Hf fl
  | .nx _, h => h
  | .rt _ _, h => h
  | .bk _, h => h
  | .ct _, h => h
  | .bad, h => h
  | .ex _ _, h => h.elim
theorem REVa.re {c' : Ac} (e : AcEq c c') {Hf' H' : Hp} {g : G} : ∀ {ev : EV} {v : V}, REVa c' Hf' H' g ev v → REVa c Hf' H' g ev v
  | .v d, _, h => by
    have h : RVal c'.toCn c'.ad Hf' d _ := h
    rw [e.cn] at h
    exact RVal.re e.d.symm _ _ h
  | .o co, _, ⟨a, o, q1, q2, q3, q4, q5, q6⟩ => ⟨a, o, q1, q2, by rw [e.cn] at q3; exact q3.re e.d.symm, q4, by rw [e.hid] at q5; exact q5, fun z => q6 (e.isd.mpr z)⟩
theorem wpF_off {c' : Ac} (e : AcEq c c') {i : Nat} {Hf : Hp} {fl : Fl} (h : wpF c W D Hf (fl.off i)) : wpF c' W0 (offN D i) Hf fl := by
  cases fl with
  | nx l => exact fun σ H Hf' R s => h _ H Hf' ((R.reAd e.symm).clear i) s
  | rt ev l => exact fun v σ H Hf' R s r => h v σ H Hf' ((R.reAd e.symm).forget i) s (by
      have r2 := REVa.re e r
      exact r2)
  | bk l => exact fun σ H Hf' R s => h _ H Hf' ((R.reAd e.symm).clear i) s
  | ct l => exact fun σ H Hf' R s => h _ H Hf' ((R.reAd e.symm).clear i) s
  | ex _ _ => exact h.elim
  | bad => exact h
theorem onEx_wish {K : PySem.W.Frag} (hK : K = c.K) (ok : ExmOk c.toCn tb) {x : XC} {l : LSt} : ∀ (hs : List ClD) (Hf : Hp), wpF c W D Hf (onEx tb hs x l) → ∀ cls dd σ H Hf', REnv c Hf' σ H l → Same Hf Hf' → RX c.toCn c.ad Hf' x cls dd → wCl K W D (hs.map (tsOf c)) cls dd σ H
  | [], Hf, h, cls, dd, σ, H, Hf', R, s, r => h cls dd σ H Hf' R s r
  | (m, oi, fs) :: rest, Hf, h, cls, dd, σ, H, Hf', R, s, r => by
    unfold onEx at h
    obtain ⟨ec, r2⟩ := id r
    cases e : tb x.c m with
    | none =>
      rw [e] at h
      exact h.elim
    | some b =>
      rw [e] at h
      have ex : PySem.W.exmOne K cls (.ref (c.cA m)) = some b := by
        rw [ec, hK]
        exact ok _ _ _ e
      cases b with
      | false =>
        have ih := onEx_wish hK ok rest Hf h cls dd σ H Hf' R s r
        cases oi with
        | none => exact ⟨false, ex, (fun z => nomatch z), fun _ => ih⟩
        | some i => exact ⟨false, ex, (fun z => nomatch z), fun _ => ih⟩
      | true =>
        cases oi with
        | none => exact ⟨true, ex, fun _ a na => ⟨Hf', l, R, (wpF_noEx h).mo s⟩, fun z => nomatch z⟩
        | some i =>
          refine ⟨true, ex, fun _ a na => ?_, fun z => nomatch z⟩
          obtain ⟨xc, args⟩ := x
          match args, r2, h with
          | [d], r2, h =>
            rcases r2 with r2 | ⟨d', a', v, e1, e2, e3, e4⟩
            · cases r2
            · cases e1
              have h : wpF c W D Hf (if i < l.sl.length then (fs (l.noEr.put i (.er xc d))).off i else .bad) := h
              split at h
              · have E : AcEq c { c with ad := { c.ad with er := a, ed := a', ec := cls } } := ⟨rfl, rfl, rfl, rfl, rfl, rfl, rfl, rfl⟩
                refine ⟨{ c with ad := { c.ad with er := a, ed := a', ec := cls } }, E, rfl, rfl, e2, Hf', _, (R.reAd E).setEr (n := xc) (d := d) ⟨rfl, ec, v, e3, RVal.re (ad := c.ad) (ad' := { c.ad with er := a, ed := a', ec := cls }) rfl _ _ e4⟩, (wpF_off E h).mo s⟩
              · exact h.elim
          | [], _, h => exact h.elim
          | _ :: _ :: _, _, h => exact h.elim
end
section
variable {X : Cx} {c : Ac} {W : WX} {cn : Cn} {k : Nat} {body : List Stmt} {h0 : ExceptHandler} {hds : List ExceptHandler} {l : List ClD} {pos : Pos} {fb : LSt → Fl} {tb : Nat → Nat → Option Bool}
theorem s_try (Z : Ctx X c W cn k) (ok : ExmOk cn tb) (hb : ∀ (W2 : WX) (pn : List (Addr × Obj)) (xe : Value → Shared → Prop), Ctx (X.tr pn xe) c W2 cn k → DSs (X.tr pn xe) c W2 body fb) (hh : DHs X c (h0 :: hds) l) (est : X.stack = X.env :: X.outer := by rfl)
    (efr : X.env.frame = some X.env.locals := by rfl) : DS X c W (.Try body (h0 :: hds) [] [] pos) (zTry tb l fb) :=
  ⟨(ps_tryC est efr Z.nd Z.tk (fun W2 pn xe tk pw => (hb W2 pn xe ⟨Z.hK, Z.hc, Z.hr, tk, Z.calm, Z.nd, pw⟩).pss) (clOk hh)).imp' fun D σ H ⟨Hf, l0, R, h⟩ => by
    refine ⟨Hf, l0, R, ?_⟩
    unfold zTry at h
    cases e : fb l0 with
    | ex x l1 =>
      rw [e] at h
      exact fun cls dd σ' H' Hf' R' s' r => onEx_wish Z.hK (by rw [Z.hc]; exact ok) l Hf h cls dd σ' H' Hf' R' s' r
    | nx l1 => rw [e] at h; exact h
    | rt ev l1 => rw [e] at h; exact h
    | bk l1 => rw [e] at h; exact h
    | ct l1 => rw [e] at h; exact h
    | bad => rw [e] at h; exact h⟩
end
end Dx

namespace Dx
open PySem PySem.Spec PyProof.Rows L2
section
variable {P : Program} {w : World} {K : PySem.W.Frag} {cs : List (Addr × Addr)} {h : Heap} {a : Addr} {o : Obj} {ds : List V}
open Classical in
noncomputable def seen0 (K : PySem.W.Frag) (cs : List (Addr × Addr)) (a : Addr) (o : Obj) (ds : List V) : Hp := fun b =>
  if b ∈ cs.map (·.2) then some (.tbl #[]) else if b = a ∧ K.lookup a = none then some (.frz o (.lst ds)) else none
theorem seen0_tab {p : Addr × Addr} (hp : p ∈ cs) : seen0 K cs a o ds p.2 = some (.tbl #[]) := if_pos (List.mem_map.mpr ⟨p, hp, rfl⟩)
theorem seen0_of {b : Addr} {u : HO} (e : seen0 K cs a o ds b = some u) : (b ∈ cs.map (·.2) ∧ u = .tbl #[]) ∨ (b = a ∧ K.lookup a = none ∧ u = .frz o (.lst ds)) := by
  unfold seen0 at e
  split at e
  · exact .inl ⟨by assumption, (Option.some.inj e).symm⟩
  · split at e
    · rename_i q
      exact .inr ⟨q.1, q.2, (Option.some.inj e).symm⟩
    · exact nomatch e
abbrev tab0 : Obj := { cls := .none, data := .fields #[] }
theorem law_callG {mg mb : Str → Option Value} {CX : CXT} {k : Nat} {fa : Addr} {fd : FuncData} {x : Str} {sp : Sp} {s : Shared} {vs : List Value} {ns : List Int}
    (KX : K.In s.heap) (hg : s.heap.Ns mainGlobals mg) (hb : s.heap.Ns builtinsNs mb) (hbb : ∀ x : Str, x ≠ "__name__" → mb x = bootBuiltins x) (lim : s.heap.NoLimit) (gens : s.gens = #[])
    (isT : ∀ p ∈ cs, s.heap.get? p.2 = some tab0) (noT : ∀ p ∈ cs, K.lookup p.2 = none) (code : ∀ p ∈ cs, PySem.W.CodeHd s.heap p.1 p.2)
    (bm : ∃ (m : Addr) (ob : Obj), mg "__builtins__" = some (.ref m) ∧ m ≠ builtinsNs ∧ s.heap.get? m = some ob ∧ ob.cls = .type "module" ∧ ob.dict = some builtinsNs ∧ ob.data = .plain)
    (isL : s.heap.get? a = some { cls := .type "list", data := .seq vs.toArray }) (are : IntsAre vs ns) (short : ns.length ≤ sizeLine) (room : Room k callerA)
    (F : ∀ base : Heap, K.In base → base.Ns mainGlobals mg → (∀ p ∈ cs, LamX.TabB base mg p.1 p.2) → FnOk P w K mg base CX k fa fd [x] sp)
    (bind : ∀ (s : Shared) (u : Value), BindsTo s fd ⟨[u], []⟩ [(x, u)])
    (wish : ∀ H : Hp, (∀ p ∈ cs, H p.2 = some (.tbl #[])) → SqL K H a (ns.map V.int) → sp [.ref a] H (fun v _ => v = .bl true) fun _ _ _ => False)
    (noX : ∀ H e s', CX [] H s (fun _ _ _ => False) e s' → False) :
    codeAny (model P w) callerA (.call (.ref fa) ⟨[.ref a], []⟩) (fun r s' => r = .ok (.ret (.bool true)) ∧ OldK s.heap s'.heap ∧ s'.os = s.os ∧ AllBare s'.gens) s := by
  have rel := vals_ints are
  have len := are.length
  have tabs : ∀ {b : Addr}, b ∈ cs.map (·.2) → s.heap.get? b = some tab0 ∧ K.lookup b = none := fun {b} hb => by
    obtain ⟨p, hp, rfl⟩ := List.mem_map.mp hb
    exact ⟨isT p hp, noT p hp⟩
  have aNo : a ∉ cs.map (·.2) := fun z => by
    have e := (tabs z).1
    rw [isL] at e
    exact nomatch congrArg Obj.data (Option.some.inj e)
  obtain ⟨H, hH⟩ : ∃ H : Hp, H = seen0 K cs a { cls := .type "list", data := .seq vs.toArray } (ns.map V.int) := ⟨_, rfl⟩
  have hT : ∀ p ∈ cs, H p.2 = some (.tbl #[]) := fun p hp => hH ▸ seen0_tab hp
  have hO : ∀ {b : Addr} {u : HO}, H b = some u → (b ∈ cs.map (·.2) ∧ u = .tbl #[]) ∨ (b = a ∧ K.lookup a = none ∧ u = .frz { cls := .type "list", data := .seq vs.toArray } (.lst (ns.map V.int))) := fun {b u} e => seen0_of (hH ▸ e)
  -- what is neither a table nor the script stands in the base
  have free : ∀ {b : Addr} {q : Obj}, s.heap.get? b = some q → (∀ l n, q.data ≠ .seq l n) → q.data ≠ .fields #[] → H b = none := fun {b q} e n1 n2 => by
    cases z : H b with
    | none => rfl
    | some u =>
      rcases hO z with ⟨hb, _⟩ | ⟨rfl, _, _⟩
      · have e2 := (tabs hb).1
        rw [e] at e2
        exact (n2 (congrArg Obj.data (Option.some.inj e2))).elim
      · rw [isL] at e
        exact (n1 _ _ (congrArg Obj.data (Option.some.inj e)).symm).elim
  have there : ∀ {b : Addr} {q : Obj}, s.heap.get? b = some q → (∀ l n, q.data ≠ .seq l n) → q.data ≠ .fields #[] → (hidT s.heap H).get? b = some q := fun e n1 n2 => hidT_get e (free e n1 n2)
  have names : ∀ {b : Addr} {m : Str → Option Value}, s.heap.Ns b m → (hidT s.heap H).Ns b m := fun ⟨q, es, ep, e, d, r⟩ =>
    ⟨q, es, ep, there e (fun l n z => by rw [d] at z; exact nomatch z) (fun z => by rw [d] at z; exact nomatch z), d, r⟩
  have inK : K.In (hidT s.heap H) := fun b q e => hidT_get (KX b q e) (by
    cases z : H b with
    | none => rfl
    | some u =>
      rcases hO z with ⟨hb, _⟩ | ⟨rfl, n, _⟩
      · rw [(tabs hb).2] at e
        exact nomatch e
      · rw [n] at e
        exact nomatch e)
  have mod : L2.Mod K mg (hidT s.heap H) := by
    obtain ⟨mc, l1, l2⟩ := lim
    exact ⟨inK, names hg, ⟨mb, names hb, hbb⟩, ⟨mc, names l1, l2⟩⟩
  have noG : ∀ {b : Addr} {q : Obj}, s.heap.get? b = some q → (∀ es ep, q.data ≠ .dict es ep) → b ≠ mainGlobals := fun {b q} e n z => by
    obtain ⟨q2, es, ep, e2, d, _⟩ := hg
    rw [z, e2] at e
    cases e
    exact n _ _ d
  have tb : ∀ p ∈ cs, LamX.TabB (hidT s.heap H) mg p.1 p.2 := fun p hp => by
    obtain ⟨q, us, file, tf, flags, tg, inF, text, tt, e1, r1, r2, r3, rest⟩ := code p hp
    obtain ⟨m, ob, b1, b2, b3, b4, b5, b6⟩ := bm
    refine ⟨⟨q, us, file, tf, flags, tg, inF, text, tt, there e1 (fun l n z => by rw [r2] at z; exact nomatch z) (fun z => ?_), r1, r2, r3, rest⟩,
      ⟨m, ob, b1, b2, noG b3 (fun es ep z => by rw [b6] at z; exact nomatch z), fun z => ?_, there b3 (fun l n z => by rw [b6] at z; exact nomatch z) (fun z => by rw [b6] at z; exact nomatch z), b4, b5, b6⟩,
      (noG (isT p hp) fun es ep z => nomatch z).symm⟩
    · rw [r2] at z
      cases z
      simp at r3
    · rw [z, isT p hp] at b3
      cases b3
      exact nomatch b6
  have holds : HOk P w H s.heap := fun b u z => by
    rcases hO z with ⟨hb, rfl⟩ | ⟨rfl, _, rfl⟩
    · exact (tabs hb).1
    · exact ⟨isL, by rw [List.length_map]; exact short, vs, _, rel, isL⟩
  have script : SqL K H a (ns.map V.int) := by
    cases z : K.lookup a with
    | none =>
      refine .inl (.inr ⟨{ cls := .type "list", data := .seq vs.toArray }, ?_⟩)
      rw [hH]
      exact (if_neg aNo).trans (if_pos ⟨rfl, z⟩)
    | some q =>
      have e := KX a q z
      rw [isL] at e
      cases e
      exact .inr ⟨_, vs.toArray, _, z, rfl, rfl, rfl, by rw [List.size_toArray, len]; exact short, by simpa using rel⟩
  have env : Env0 P w K mg (hidT s.heap H) callerA [] s H := ⟨rfl, mod, fun b q => of_hidT, Nat.le_of_eq (hidT_size _ _), trivial, fun b z => absurd (show b ∈ ([] : List Addr) from z) List.not_mem_nil, holds, AllBare.of_eq gens⟩
  refine codeAny_mono ((F _ inK (names hg) tb).run callerA [] s H ⟨[.ref a], []⟩ [.ref a] [.ref a] _ _ room env (bind s _) (.cons rfl .nil) (wish H hT script)) fun r s' z => ?_
  match r, z with
  | .error e, z => exact (noX H e s' z).elim
  | .ok .next, z => exact z.elim
  | .ok .brk, z => exact z.elim
  | .ok .cont, z => exact z.elim
  | .ok (.ret u), ⟨v, H', os, bare, un, holds', ru, ev⟩ =>
    have ev : v = .bl true := ev
    subst ev
    have ru : u = Value.bool true := ru
    subst ru
    have stay : ∀ b q, b ∉ cs.map (·.2) → s.heap.get? b = some q → s'.heap.get? b = some q := fun b q nb e => by
      cases z : H b with
      | none => exact un.keep b q e z (fun y => absurd (show b ∈ ([] : List Addr) from y) List.not_mem_nil) (fun y => absurd y List.not_mem_nil)
      | some u =>
        rcases hO z with ⟨y, _⟩ | ⟨_, _, rfl⟩
        · exact absurd y nb
        · have e1 := (holds b _ z).1
          have e2 := (holds' b _ (un.frzs b _ _ z)).1
          rw [e] at e1
          cases e1
          exact e2
    have more : ∀ {b : Addr}, b ∈ cs.map (·.2) → ∃ l : Array Value, s'.heap.get? b = some { cls := .none, data := .fields (#[] ++ l) } := fun {b} y => by
      obtain ⟨p, hp, rfl⟩ := List.mem_map.mp y
      obtain ⟨l, z⟩ := un.tbls p.2 #[] (hT p hp)
      exact ⟨l, holds' p.2 _ z⟩
    refine ⟨rfl, ⟨fun b q e => ?_, fun b q e => ?_⟩, os, bare⟩
    · by_cases y : b ∈ cs.map (·.2)
      · obtain ⟨l, e2⟩ := more y
        obtain ⟨p, hp, rfl⟩ := List.mem_map.mp y
        rw [isT p hp] at e
        cases e
        exact .inr (.inl ⟨((code p hp).tab (isT p hp)).isCodeTable, rfl, #[], l, rfl, e2⟩)
      · exact .inl (stay b q y e)
    · by_cases y : b ∈ cs.map (·.2)
      · obtain ⟨l, e2⟩ := more y
        exact ⟨_, e2⟩
      · exact ⟨q, stay b q y e⟩
end
end Dx

namespace Dx
open PySem PySem.Spec PyProof.Rows L2

theorem walk_ofX {l : PySem.W.OpenLaw} {n k : Nat} {q : Program} {loose : List Str} {XP : (Str → Option Value) → Heap → Prop} {YP : World → Heap → Prop} {d : DefRec} {CX : CXT} {x : Str}
    (hn : l.most = some n) (hn2 : n ≤ sizeLine) (hdf : d.params.defaults = []) (hr : Room k callerA)
    (F : ∀ (w : World) (mg : Str → Option Value) (fa : Addr) (h : Heap), YP w h → h.Ns mainGlobals mg → mg d.name = some (.ref fa) →
      ∃ (K : PySem.W.Frag) (fd : FuncData) (cs : List (Addr × Addr)) (sp : Sp), K.In h ∧ (∀ p ∈ cs, h.get? p.2 = some { cls := .none, data := .fields #[] }) ∧ (∀ p ∈ cs, K.lookup p.2 = none) ∧ (∀ p ∈ cs, PySem.W.CodeHd h p.1 p.2) ∧
        (∀ (s : Shared) (u : Value), BindsTo s fd ⟨[u], []⟩ [(x, u)]) ∧
        (∀ (H : Hp) (a : Addr) (ns : List Int), ns.length ≤ n → (∀ p ∈ cs, H p.2 = some (.tbl #[])) → SqL K H a (ns.map V.int) → sp [.ref a] H (fun v _ => v = .bl true) fun _ _ _ => False) ∧
        ∀ base : Heap, K.In base → base.Ns mainGlobals mg → (∀ p ∈ cs, LamX.TabB base mg p.1 p.2) → FnOk l.prog w K mg base CX k fa fd [x] sp)
    (hCX : ∀ (H : Hp) (s : Shared) (e : Value) (s' : Shared), CX [] H s (fun _ _ _ => False) e s' → False) : PySem.W.WalkO q loose XP YP l.row.toRowW d [] (fun f vs => PySem.call f vs) := by
  refine Att.attach_callB hn hdf fun w s₀ s1 mg mb fa o pm cd doc a vs ns G Y ho hd hcd hmg hobj hints hlen hbits hg => ?_
  obtain ⟨K, fd, cs, sp, KX, hT, nT, C, hb, hsp, hF⟩ := F w mg fa _ Y G.T.g hmg
  exact law_callG KX G.T.g G.T.b G.T.builtins G.T.nolimit hg hT nT C G.T.bmain hobj hints (Nat.le_trans hlen hn2) hr hF hb (fun H hH hS => hsp H a ns hlen hH hS) fun H e s' => hCX H s1 e s'
theorem tqL_mem {l : List (Addr × Str)} {P : Addr} (h : (tqL l P).isSome = true) : P ∈ l.map (·.1) := by
  unfold tqL at h
  obtain ⟨q, hq⟩ := Option.isSome_iff_exists.mp h
  induction l with
  | nil => cases hq
  | cons p r ih =>
    simp only [List.lookup] at hq
    split at hq
    · rename_i e
      rw [List.map_cons, eq_of_beq e]
      exact List.mem_cons_self ..
    · exact List.mem_cons_of_mem _ (ih (Option.isSome_iff_exists.mpr ⟨q, hq⟩) hq)

theorem ex0B_ok {K : PySem.W.Frag} {mg : Str → Option Value} {cn : Cn} {x : Str} {n : Nat} {B newId initId : String} {bm : List Value} (F : ExcBaseFacts B newId initId bm) (m : mg x = some (.ref (cn.cA n))) (h : ex0B K (cn.cA n) newId bm = true) : Xe0 K mg cn x n := by
  unfold ex0B at h
  simp only [Bool.and_eq_true, decide_eq_true_eq] at h
  exact ⟨m, B, newId, initId, bm, F, h.1.1.1, h.1.1.2, h.1.2, h.2⟩
theorem xin_ok {P : Program} {K : PySem.W.Frag} {C : Addr} {f slf vn nm qn : Str} {st : Stmt} {B newId initId : String} {bm : List Value} (FB : ExcBaseFacts B newId initId bm) (SF : StoreFacts B bm "object.__setattr__" "object") (KF : PySem.W.KxsFacts B initId) (S : DxR.XinS st slf vn f)
    (h1 : xinB K P.main.file C f qn B newId initId bm = true) (h2 : xifB K P.main.file C = true) (h3 : seeI K (atX K C "__init__") = (⟨fun K => atX K C "__init__", nm, qn, st, true, [], []⟩ : DfX).due ∧ okX K ⟨fun K => atX K C "__init__", nm, qn, st, true, [], []⟩ = true) (top : (P.main.scope.names.lookup ("super" : Str)).isSome = false) : XinOk P K C f := by
  unfold xinB at h1
  simp only [Bool.and_eq_true, decide_eq_true_eq] at h1
  obtain ⟨⟨⟨⟨⟨⟨⟨⟨⟨⟨⟨⟨⟨a1, a2⟩, a3⟩, a4⟩, a5⟩, a6⟩, a7⟩, a8⟩, a9⟩, a10⟩, a11⟩, a12⟩, a13⟩, a14⟩ := h1
  refine ⟨atX K C "__init__", st, slf, vn, B, newId, initId, bm, ⟨FB, SF, KF, a1, a2, He.eqO_ok a3, a4, He.eqO_ok a5, He.eqO_ok a6, He.eqO_ok a7, a8, a9, He.eqO_ok a10, a11, ?_, top⟩, S, a12, a13, a14⟩
  obtain ⟨e, c⟩ := h3
  obtain ⟨kp, c2⟩ := Bool.and_eq_true_iff.mp c
  unfold xifB at h2
  unfold seeI at e
  simp only at c2
  cases q : K.lookup (atX K C "__init__") with
  | none =>
    rw [q] at c2
    cases c2
  | some o =>
    rw [q] at c2 e h2
    obtain ⟨oc, od, dt, osl⟩ := o
    cases dt with
    | func z =>
      obtain ⟨n1, n2, n3, n4, n5, n6, n7, n8, n9, n10, n11, n12, n13, n14, n15⟩ := z
      have e2 : (some (n1, n2, n3, n4, n5, n6, [], n15) : He.FnW) = some (nm, qn, defArgs st, .stmts (defBody st), defScope st, mainGlobals, [], builtinsNs) := e
      simp only [Option.some.injEq, Prod.mk.injEq] at e2
      obtain ⟨g1, g2, g3, g4, g5, g6, _, g8⟩ := e2
      subst g1 g2 g3 g4 g5 g6 g8
      have c3 : (PySem.W.codeIn K n13 n2 && (He.dflB K n8 [] && He.kwdB K n9 [])) = true := c2
      obtain ⟨k1, k2⟩ := Bool.and_eq_true_iff.mp c3
      obtain ⟨k3, k4⟩ := Bool.and_eq_true_iff.mp k2
      rcases He.dflB_ok k3 with ⟨_, e8⟩ | ⟨e8, _⟩
      case inr => exact absurd rfl e8
      case inl =>
        subst e8
        dsimp only at h2
        split at h2
        · rename_i n cc d
          obtain ⟨h4, h5⟩ := Bool.and_eq_true_iff.mp h2
          obtain ⟨h6, h7⟩ := Bool.and_eq_true_iff.mp h4
          have en : n = ("__class__" : Str) := eq_of_beq h6
          subst en
          split at h7
          · rename_i cl cld C' csl hc
            have ec : C' = C := eq_of_beq h7
            subst ec
            split at h5
            · rename_i ccl cdd vs ccs hd
              split at h5
              · rename_i fl tf hv
                exact ⟨oc, od, n1, n2, n9, n10, n11, n12, d, cc, n14, osl, rfl, k1, ⟨cl, cld, csl, hc⟩, ccl, cdd, vs, ccs, fl, tf, hd, hv, h5⟩
              · cases h5
            · cases h5
          · cases h7
        · cases h2
    | _ => cases c2

section
variable {P : Program} {w : World} {K : PySem.W.Frag} {mg : Str → Option Value} {base : Heap} {cn : Cn} {x qual : Str} {params : Arguments} {body : List Stmt} {scope : Scope} {f : Addr} {fd : FuncData} {N ps : List Str} {k : Nat} {fb : LSt → Fl} {dvs : List V} {kws : List (Str × V)}
theorem cd_eq {oc : Value} {od : Option Addr} {z : FuncData} {osl : Array (Option Value)} (lk : K.lookup f = some ⟨oc, od, .func z, osl⟩) (h : cdB K f = true) : z.code = .ref (cdX K f) := by
  unfold cdB at h
  unfold cdX
  rw [lk] at h ⊢
  dsimp only at h ⊢
  cases e : z.code <;> rw [e] at h <;> first | cases h | rfl
theorem ThkOk.mono {j : Nat} {m : (G → FR) → G → FR} (h : ThkOk P w K mg base cn j x m) (hj : j ≤ k) : ThkOk P w K mg base cn k x m := by
  obtain ⟨g, fd, prm, bd, sc, Ng, a, n, fb, F, hm, hb, S, hN, hn, hv, h1, h2, e, hB⟩ := h.ex
  exact ⟨g, fd, prm, bd, sc, Ng, a, n, fb, F, hm, hb, S, hN, hn, hv, h1, h2, e, fun cdv A outer s H E c t Z act => hB cdv A outer s H E c t ⟨Z.hK, Z.hc, Z.hr.mono hj, Z.tk, Z.calm, Z.nd, Z.pass⟩ act⟩
end
section
variable {X : Cx} {c c' : Ac} {W : WX} {cn : Cn} {k j : Nat}
theorem Ctx.nm (Z : Ctx X c W cn k) {x : Str} {m : Nat} (h : X.mg x = some (.ref (cn.cA m))) (hg : Gl X x := by rfl) (hd : (x == ("__debug__" : Str)) = false := by decide) : Names X x (.ref (c.cA m)) := ⟨hg, hd, .inl (by rw [Z.hc]; exact h)⟩
theorem Ctx.mono (Z : Ctx X c W cn k) (h : j ≤ k) : Ctx X c W cn j := ⟨Z.hK, Z.hc, Z.hr.mono h, Z.tk, Z.calm, Z.nd, Z.pass⟩
end
end Dx

namespace Dx
open PySem PySem.Spec PyProof.Rows L2

def gcdD : List D → Option D
  | [.int a, .int b] => some (.int ((Nat.gcd a.natAbs b.natAbs : Nat) : Int))
  | _ => none
theorem ok_gcd {c : Ac} : BltOk c rGcd gcdD := by
  intro Hf H σ l ds d vs Q R r e q
  match ds, e, r with
  | [.int a, .int b], e, r =>
    obtain ⟨x, y, rfl, h1, h2⟩ := rvals2 r
    cases e
    cases h1
    cases h2
    exact ⟨a, b, rfl, q.flat R rfl⟩
section
variable {X : Cx} {c : Ac} {W : WX} {cn : Cn} {k : Nat} {a b e : Expr} {es : List Expr} {pos p : Pos} {fa fb fe : LSt → Res D} {fs : LSt → Res (List D)} {x : Str}
theorem e_gcd (hm : X.mg x = some (.builtin "math.gcd")) (ha : DE X c W a fa) (hb : DE X c W b fb) (hg : Gl X x := by rfl) (hdb : (x == ("__debug__" : Str)) = false := by decide) (he : starEach [a, b] X.env = (false, eval a X.env) :: starEach [b] X.env := by rfl)
    (he2 : starEach [b] X.env = (false, eval b X.env) :: starEach [] X.env := by rfl) (hpl : (backTo pos (starEach [b] X.env)).any (·.1) = false := by rfl) : DE X c W (.Call (.Name x p) [a, b] [] pos) (sBlt gcdD (sCons fa (sCons fb sNil))) :=
  ⟨(pe_callBfun cr_gcd hg hm (da_cons ha (da_cons hb da_nil he2) he).pa hdb he hpl).imp' fun _ _ _ h => blt_run ok_gcd h⟩
def sStar (a : LSt → Res D) (r : LSt → Res (List D)) : LSt → Res (List D) := fun l => (a l).bind fun d l => match seqD d with
  | some xs => (r l).bind fun ys l => .ok (xs ++ ys) l
  | none => .bad
theorem da_star (hK : X.K = c.K) (he : DE X c W e fe) (hr : DA X c W es fs) (hs : starEach (.Starred e p :: es) X.env = (true, eval e X.env) :: starEach es X.env := by rfl) : DA X c W (.Starred e p :: es) (sStar fe fs) :=
  ⟨(StX.pa_star he.pe hr.pa hs).imp' fun σ H Q ⟨Hf, l, R, h⟩ => run_bind PA'.mo R h fun d l1 v H1 Hf1 R1 s1 r1 h1 => by
    have key : ∀ xs : List D, seqD d = some xs → ∃ p vs, v = .ref p ∧ (SqT X.K H1 p vs ∨ SqL X.K H1 p vs) ∧ RVals c.toCn c.ad Hf1 xs vs := by
      intro xs e
      cases d with
      | tup ds =>
        cases e
        obtain ⟨a, vs, rfl, h2, t⟩ := r1
        exact ⟨a, vs, rfl, .inl (by rw [hK]; exact sameT R1.sub h2), t⟩
      | lst ds =>
        cases e
        obtain ⟨a, vs, rfl, h2, t⟩ := r1
        exact ⟨a, vs, rfl, .inr (SqL.of (R1.sub _ _ h2)), t⟩
      | _ => cases e
    cases e : seqD d with
    | none =>
      rw [e] at h1
      exact h1.elim
    | some xs =>
      rw [e] at h1
      obtain ⟨p, vs, ev, hq, rv⟩ := key xs e
      exact ⟨p, vs, ev, hq, run_bindA PA'.mo R1 h1 fun ys l2 us H2 Hf2 R2 s2 r2 h2 => h2 (vs ++ us) H2 Hf2 R2 (Same.refl _) ((RVals.mono s2 _ _ rv).append r2)⟩⟩
end
section
variable {c : Ac} {Hf1 : Hp} {d : Addr} {o : Obj} {ks : List Key} {vs : List V} {ds : List D}
end
section
variable {X : Cx} {c : Ac} {W : WX} {tg e : Expr} {elts : List Expr} {kk : Nat} {tpos apos cpos : Pos} {fe : LSt → Res D}
end
end Dx

namespace Dx
open PySem PySem.Spec PyProof.Rows L2

mutual
def deq : Nat → D → D → Bool
  | _, .non, .non => true
  | _, .bl a, .bl b => a == b
  | _, .int i, .int j => i == j
  | _, .str x, .str y => x == y
  | n + 1, .tup ds, .tup es => deqs n ds es
  | n + 1, .lst ds, .lst es => deqs n ds es
  | n + 1, .dK ks ds, .dK ls es => decide (ks = ls) && decide (ks.Nodup) && deqs n ds es
  | _, _, _ => false
def deqs : Nat → List D → List D → Bool
  | _, [], [] => true
  | n, d :: ds, e :: es => deq n d e && deqs n ds es
  | _, _, _ => false
end
def Dq (cn : Cn) (ad : Ad) (H : Hp) (n : Nat) (x y : V) : Prop := ∃ d e, deq n d e = true ∧ RVal cn ad H d x ∧ RVal cn ad H e y
section
variable {cn : Cn} {ad : Ad} {H : Hp}
theorem dqs_pair : ∀ {n : Nat} {ds es : List D} {xs ys : List V}, deqs n ds es = true → RVals cn ad H ds xs → RVals cn ad H es ys → Paired (Dq cn ad H n) xs ys
  | n, [], [], xs, ys, _, r1, r2 => by
    cases (show xs = [] from r1)
    cases (show ys = [] from r2)
    exact .nil
  | n, d :: ds, e :: es, xs, ys, h, ⟨v, r, q1, h1, t1⟩, ⟨u, t, q2, h2, t2⟩ => by
    unfold deqs at h
    obtain ⟨a, b⟩ := Bool.and_eq_true_iff.mp h
    subst q1 q2
    exact .cons ⟨d, e, a, h1, h2⟩ (dqs_pair b t1 t2)
  | _, [], _ :: _, _, _, h, _, _ => by simp [deqs] at h
  | _, _ :: _, [], _, _, h, _, _ => by simp [deqs] at h
theorem val_of {xs ys : List V} {F : V → V → Prop} (hp : Paired F xs ys) : ∀ {ks : List Key}, ks.Nodup → ks.length = xs.length → ∀ p ∈ ks.zip xs, ∃ u, valV (ks.zip ys) p.1 = some u ∧ F p.2 u := by
  induction hp with
  | nil => intro ks _ _ p hm; simp at hm
  | @cons x y xs ys h t ih =>
    intro ks nd hl p hm
    cases ks with
    | nil => simp at hl
    | cons k ks =>
      have nd2 := List.nodup_cons.mp nd
      rw [List.zip_cons_cons] at hm ⊢
      rcases List.mem_cons.mp hm with rfl | hm
      · refine ⟨y, ?_, h⟩
        simp [valV]
      · obtain ⟨u, e, f⟩ := ih nd2.2 (by simpa using hl) p hm
        refine ⟨u, ?_, f⟩
        have ne : k ≠ p.1 := fun z => nd2.1 (z ▸ (List.of_mem_zip hm).1)
        simpa [valV, ne] using e
end
section
variable {X : Cx} {cn : Cn} {ad : Ad} {pins : List (Addr × Obj)} {σ : L2.St} {H : Hp} {s : Shared}
def DqR (cn : Cn) (ad : Ad) (H : Hp) (F : V → V → Prop) (x y : V) : Prop :=
  (∃ a b xs ys, x = .ref a ∧ y = .ref b ∧ H a = some (.lst xs) ∧ H b = some (.lst ys) ∧ Paired F xs ys) ∨
  (∃ a b xs ys, x = .ref a ∧ y = .ref b ∧ SqT cn.K H a xs ∧ SqT cn.K H b ys ∧ Paired F xs ys) ∨
  (∃ a b o1 o2 ks ls, x = .ref a ∧ y = .ref b ∧ H a = some (.frz o1 (.dK ks)) ∧ H b = some (.frz o2 (.dK ls)) ∧ ks.length = ls.length ∧ ∀ p ∈ ks, ∃ u, valV ls p.1 = some u ∧ F p.2 u)
theorem DqR.refs {F : V → V → Prop} {x y : V} (h : DqR cn ad H F x y) : ∃ a b, x = .ref a ∧ y = .ref b := by
  rcases h with ⟨a, b, _, _, e1, e2, _⟩ | ⟨a, b, _, _, e1, e2, _⟩ | ⟨a, b, _, _, _, _, e1, e2, _⟩ <;> exact ⟨a, b, e1, e2⟩
theorem dqR_run (hK : X.K = cn.K) (I : Inv X pins σ H s) {A : Around} {F : V → V → Prop} (hu : A.units < cLine) (ih : ∀ x y v u, F x y → RelV x v → RelV y u → SeqAt.EqP X.prog X.w A.in1 s v u true) {x y : V} {v u : Value} (h : DqR cn ad H F x y) (rx : RelV x v) (ry : RelV y u)
    (E Q : Value → Shared → Prop) (q : Q (.bool true) s) : wpAny (model X.prog X.w) A (richCompare .Eq v u) Q E s := by
  rcases h with ⟨a, b, xs, ys, rfl, rfl, ha, hb, hp⟩ | ⟨a, b, xs, ys, rfl, rfl, ha, hb, hp⟩ | ⟨a, b, o1, o2, ks, ls, rfl, rfl, ha, hb, hl, hp⟩
  · exact eqR_run I hu ih (.inl ⟨a, b, xs, ys, rfl, rfl, SqL.of ha, SqL.of hb, hp⟩) rx ry E Q q
  · cases (show v = Value.ref a from rx)
    cases (show u = Value.ref b from ry)
    rw [← hK] at ha hb
    obtain ⟨its, r, e, z⟩ := I.tuple ha
    obtain ⟨its2, r2, e2, z2⟩ := I.tuple hb
    have hsz : its.toArray.size = its2.toArray.size := by rw [List.size_toArray, List.size_toArray, ← r.length, ← r2.length]; exact Paired.length hp
    refine GQ.rc_tupG hsz hu (fun _ s' => s' = s) e e2 (fun i h1 h2 s' q' => ?_) (fun s' q' => by subst q'; exact q) rfl
    subst q'
    have k := items_run ih hp r r2 i (by simpa using h1) (by simpa using h2)
    have k2 := k E (fun r s2 => r = true ∧ s2 = s') ⟨rfl, rfl⟩
    simpa using k2
  · cases (show v = Value.ref a from rx)
    cases (show u = Value.ref b from ry)
    obtain ⟨_, _, ya, va, ra, da⟩ := (show ObjOk X.prog X.w H s.heap a (.frz o1 (.dK ks)) from I.hok a _ ha)
    obtain ⟨_, _, yb, vb, rb, db⟩ := (show ObjOk X.prog X.w H s.heap b (.frz o2 (.dK ls)) from I.hok b _ hb)
    refine PySem.W.rcP_dicts (knd := mixKind X.prog X.w) (r := true) ya yb da db hu (fun _ => hits_run ih rb ra hp) E Q ?_
    have e : va.length = vb.length := by rw [← ra.length, ← rb.length]; exact hl
    rw [show (va.length == vb.length && true) = true from by rw [e]; simp]
    exact q
theorem dq_split : ∀ {n : Nat} {d e : D} {x y : V}, deq n d e = true → RVal cn ad H d x → RVal cn ad H e y → (x = y ∧ flatB x = true) ∨ ∃ m, n = m + 1 ∧ DqR cn ad H (Dq cn ad H m) x y := by
  intro n d e x y h r1 r2
  unfold deq at h
  split at h
  · exact .inl ⟨r1.trans r2.symm, by rw [show x = .non from r1]; rfl⟩
  · rename_i a b
    cases (eq_of_beq h)
    exact .inl ⟨r1.trans r2.symm, by rw [show x = .bl a from r1]; rfl⟩
  · rename_i a b
    cases (eq_of_beq h)
    exact .inl ⟨r1.trans r2.symm, by rw [show x = .int a from r1]; rfl⟩
  · rename_i a b
    cases (eq_of_beq h)
    exact .inl ⟨r1.trans r2.symm, by rw [show x = .str a from r1]; rfl⟩
  · rename_i m ds es
    obtain ⟨a, xs, rfl, ha, ta⟩ := r1
    obtain ⟨b, ys, rfl, hb, tb⟩ := r2
    exact .inr ⟨m, rfl, .inr (.inl ⟨a, b, xs, ys, rfl, rfl, tupS ha, tupS hb, dqs_pair h ta tb⟩)⟩
  · rename_i m ds es
    obtain ⟨a, xs, rfl, ha, ta⟩ := r1
    obtain ⟨b, ys, rfl, hb, tb⟩ := r2
    exact .inr ⟨m, rfl, .inl ⟨a, b, xs, ys, rfl, rfl, ha, hb, dqs_pair h ta tb⟩⟩
  · rename_i m ks ds ls es
    simp only [Bool.and_eq_true, decide_eq_true_eq] at h
    obtain ⟨⟨h1, h2⟩, h3⟩ := h
    subst h1
    obtain ⟨a, oa, xs, rfl, ha, la, ta⟩ := r1
    obtain ⟨b, ob, ys, rfl, hb, lb, tb⟩ := r2
    have hp := dqs_pair h3 ta tb
    exact .inr ⟨m, rfl, .inr (.inr ⟨a, b, oa, ob, _, _, rfl, rfl, ha, hb, by rw [List.length_zip, List.length_zip, ← la, ← lb], val_of hp h2 la⟩)⟩
  · cases h
theorem dq_run (hK : X.K = cn.K) (I : Inv X pins σ H s) : ∀ (n : Nat) (A : Around), A.units + n < cLine → ∀ (x y : V) (v u : Value), Dq cn ad H n x y → RelV x v → RelV y u → SeqAt.EqP X.prog X.w A s v u true := by
  intro n
  induction n with
  | zero =>
    intro A hu x y v u ⟨d, e, h, r1, r2⟩ rx ry
    rcases dq_split h r1 r2 with ⟨rfl, f⟩ | ⟨m, e, _⟩
    · exact (eqAt_same rx ry f).eqP
    · cases e
  | succ n ih =>
    intro A hu x y v u ⟨d, e, h, r1, r2⟩ rx ry
    rcases dq_split h r1 r2 with ⟨rfl, f⟩ | ⟨m, e, hR⟩
    · exact (eqAt_same rx ry f).eqP
    · cases e
      have step := dqR_run hK I (A := A) (by omega) (ih A.in1 (by show A.units + 1 + n < cLine; omega)) hR rx ry
      obtain ⟨a, b, rfl, rfl⟩ := hR.refs
      cases (show v = Value.ref a from rx)
      cases (show u = Value.ref b from ry)
      by_cases e : a = b
      · subst e
        exact (SeqAt.EqAt.same _).eqP
      · exact SeqAt.eqP_refs e step
def rDq (cn : Cn) (ad : Ad) : R2 := fun x y H Q => DqR cn ad H (Dq cn ad H 40) x y ∧ Q (.bl true) H
theorem op_dq (hK : X.K = cn.K) (hu : X.A.units + 64 < cLine) : OpR X (compareOp .Eq) (rDq cn ad) := by
  intro pins s σ H x y v u Q I rx ry h
  exact dqR_run hK I (A := X.A) (by omega) (dq_run hK I 40 X.A.in1 (by show X.A.units + 1 + 40 < cLine; omega)) h.1 rx ry _ _ ⟨.bl true, H, I, rfl, h.2⟩
def rOr (r1 r2 : R2) : R2 := fun x y H Q => r1 x y H Q ∨ r2 x y H Q
end
def isFlat : D → Bool
  | .tup _ => false
  | .lst _ => false
  | .dK _ _ => false
  | _ => true
def eqX (d e : D) : Option D := if deq 41 d e && !isFlat d then some (.bl true) else eqD d e
theorem eqX_deq {d e : D} (h : deq 41 d e = true) (hf : isFlat d = false) : eqX d e = some (.bl true) := by
  unfold eqX
  rw [h, hf]
  rfl
theorem ok_eqX {c : Ac} : BinOk c (rOr (rEqD c.K) (rDq c.toCn c.ad)) eqX := by
  intro Hf H σ l d1 d2 d x y Q R r1 r2 e q
  unfold eqX at e
  split at e
  · rename_i hz
    obtain ⟨h1, h2⟩ := Bool.and_eq_true_iff.mp hz
    cases e
    rcases dq_split h1 (r1.mono R.sub) (r2.mono R.sub) with ⟨e2, f⟩ | ⟨m, e2, hR⟩
    · exfalso
      cases d1 <;> simp [isFlat] at h2
      · obtain ⟨_, _, z, _⟩ := r1; rw [z] at f; cases f
      · obtain ⟨_, _, z, _⟩ := r1; rw [z] at f; cases f
      · obtain ⟨_, _, _, z, _⟩ := r1; rw [z] at f; cases f
    · cases e2
      exact .inr ⟨hR, q.flat R rfl⟩
  · exact .inl (ok_eq _ _ _ _ _ _ _ _ _ _ R r1 r2 e q)
section
variable {X : Cx} {c : Ac} {W : WX} {cn : Cn} {k : Nat} {a b : Expr} {pos : Pos} {fa fb : LSt → Res D}
theorem e_eqX (Z : Ctx X c W cn k) (ha : DE X c W a fa) (hb : DE X c W b fb) : DE X c W (.Compare a [.Eq] [b] pos) (sBin eqX fa fb) := de_cmp ((op_eqD Z.hr.units).or (op_dq Z.hK Z.hr.units)) (Z.hK ▸ ok_eqX) ha hb (nomark _)
theorem t_eqX (Z : Ctx X c W cn k) (ha : DE X c W a fa) (hb : DE X c W b fb) : DT X c W (.Compare a [.Eq] [b] pos) (sTst (sBin eqX fa fb)) := dt_cmp ((op_eqD Z.hr.units).or (op_dq Z.hK Z.hr.units)) (Z.hK ▸ ok_eqX) ha hb (nomark _)
end
end Dx

namespace Dx
open PySem PySem.Spec PyProof.Rows L2
namespace Ev
structure Bd (n : Nat) (i : Int) : Prop where
  le : i.natAbs ≤ n
theorem Bd.c (i : Int) : Bd i.natAbs i := ⟨Nat.le_refl _⟩
theorem bits_le {i : Int} (h : i.natAbs < 2 ^ 64) : ¬ Builtin.Int.intBits i > 64 := by
  unfold Builtin.Int.intBits
  split
  · omega
  · rename_i z
    have z' : i.natAbs ≠ 0 := fun q => z (by simp [Int.natAbs_eq_zero.mp q])
    have := (Nat.log2_lt z').mpr h
    omega
theorem mulOk_bd {n : Nat} {i j : Int} (h : Bd n i) (hn : n < 2 ^ 64) : mulOkB i j = true := by
  unfold mulOkB
  rw [decide_eq_false (bits_le (Nat.lt_of_le_of_lt h.le hn))]
  rfl
theorem mul_ok {i j : Int} (h : mulOkB i j = true) : mulD (.int i) (.int j) = some (.int (i * j)) := by
  exact if_pos h
theorem mod_ok {i j : Int} (h : 0 < j) : modD (.int i) (.int j) = some (.int (i % j)) := by
  exact if_pos h
theorem eqI (i j : Int) : eqD (.int i) (.int j) = some (.bl (decide (i = j))) := by
  show some (D.bl (i == j)) = _
  rw [show (i == j) = decide (i = j) from rfl]
theorem addI (i j : Int) : addD (.int i) (.int j) = some (.int (i + j)) := rfl
theorem subI (i j : Int) : subD (.int i) (.int j) = some (.int (i - j)) := rfl
theorem negI (i : Int) : negD (.int i) = some (.int (-i)) := rfl
theorem neI (i j : Int) : neD (.int i) (.int j) = some (.bl (!decide (i = j))) := rfl
theorem leI (i j : Int) : leD (.int i) (.int j) = some (.bl (decide (i ≤ j))) := rfl
theorem ltI (i j : Int) : ltD (.int i) (.int j) = some (.bl (decide (i < j))) := rfl
theorem for_any {t : Tgt} {b : LSt → Fl} {Inv : Nat → LSt → Prop} : ∀ (m k : Nat) (l : LSt), Inv k l → (∀ i l, k ≤ i → i < k + m → Inv i l → ∃ l1 l2, t (.int (0 + (i : Int))) l = some l1 ∧ b l1 = .nx l2 ∧ Inv (i + 1) l2) →
    ∃ l2, zFor t b ((List.range' k m).map fun i : Nat => D.int (0 + (i : Int))) l = .nx l2 ∧ Inv (k + m) l2
  | 0, k, l, h, _ => ⟨l, rfl, h⟩
  | m + 1, k, l, h, st => by
    obtain ⟨l1, l2, e1, e2, h2⟩ := st k l (Nat.le_refl _) (by omega) h
    obtain ⟨l3, e3, h3⟩ := for_any (t := t) (b := b) (Inv := Inv) m (k + 1) l2 h2 fun i l a c => st i l (by omega) (by omega)
    refine ⟨l3, ?_, by rw [show k + (m + 1) = k + 1 + m by omega]; exact h3⟩
    rw [List.range'_succ, List.map_cons]
    unfold zFor
    simp only [e1, e2]
    exact e3
theorem for_range {t : Tgt} {b : LSt → Fl} {Inv : Nat → LSt → Prop} (n : Nat) (l : LSt) (h : Inv 0 l) (st : ∀ (i : Nat) l, i < n → Inv i l → ∃ l1 l2, t (.int (0 + (i : Int))) l = some l1 ∧ b l1 = .nx l2 ∧ Inv (i + 1) l2) :
    ∃ l2, zFor t b (rangeD 0 n) l = .nx l2 ∧ Inv n l2 := by
  obtain ⟨l2, e, q⟩ := for_any (t := t) (b := b) (Inv := Inv) n 0 l h fun i l _ c => st i l (by omega)
  refine ⟨l2, ?_, by rw [Nat.zero_add] at q; exact q⟩
  unfold rangeD
  rw [List.range_eq_range']
  exact e
theorem rng_ok {p : Nat} (hp : p < 100) : rng1D [.int (p : Int)] = some (rangeD 0 p) := by
  have h1 : (p : Int).natAbs < 2 ^ 61 := by omega
  simp only [rng1D, h1, if_true, Int.toNat_natCast]
theorem bind_ok {α β : Type} (a : α) (l : LSt) (k : α → LSt → Res β) : (Res.ok a l).bind k = k a l := (rfl)
theorem opt_some {α : Type} (a : α) (l : LSt) : opt (some a) l = .ok a l := (rfl)
theorem seq_nx {a b : LSt → Fl} {l l1 : LSt} (h : a l = .nx l1) : zSeq a b l = b l1 := by
  unfold zSeq
  rw [h]
  rfl
theorem gtI (i j : Int) : gtD (.int i) (.int j) = some (.bl (decide (j < i))) := rfl
theorem int1 (i : Int) : Dx.intD [.int i] = some (.int i) := rfl
theorem Bd.md (x m : Int) (h : 0 < m) : Bd m.natAbs (x % m) := ⟨by
  have h1 := Int.emod_nonneg x (b := m) (by omega)
  have h2 := Int.emod_lt_of_pos x h
  omega⟩
theorem div_ok {i j : Int} (h : 0 < j) (h2 : j.natAbs.log2 < 9000) : divD (.int i) (.int j) = some (.int (i / j)) := if_pos ⟨h, h2⟩
theorem p60 : powD (.int 10) (.int 60) = some (.int 1000000000000000000000000000000000000000000000000000000000000) := by kernel_rfl
theorem p57 : powD (.int 10) (.int 57) = some (.int 1000000000000000000000000000000000000000000000000000000000) := by kernel_rfl
theorem p17 : powD (.int 10) (.int 17) = some (.int 100000000000000000) := by kernel_rfl
theorem big : mulD (.int 1000000000000000000000000000000000000000000000000000000000000) (.int 1000000000000000000000000000000000000000000000000000000000) = some (.int 1000000000000000000000000000000000000000000000000000000000000000000000000000000000000000000000000000000000000000000000) := by kernel_rfl
theorem ab1 (i : Int) : absD [.int i] = some (.int (if i < 0 then -i else i)) := rfl
theorem mx1 (i j : Int) : maxD [.int i, .int j] = some (.int (if j > i then j else i)) := rfl
theorem mi1 (i j : Int) : minD [.int i, .int j] = some (.int (if j < i then j else i)) := rfl
theorem int2 (b : Bool) : Dx.intD [.bl b] = some (.int (if b = true then 1 else 0)) := rfl
theorem len_scr (ns : List Int) : lenD [.scr ns] = some (.int (ns.length : Nat)) := rfl
def b__law_dice : LSt → Fl := (zSeq (zSet 2 (sIf (sTst (sBin ltD (sVar 1) (sBlt lenD (sCons (sVar 0) sNil)))) (sBlt intD (sCons (sBin ixD (sVar 0) (sVar 1)) sNil)) (sBin addD (sBin mulD (sC (.int (71))) (sVar 1)) (sC (.int (23))))))
    (zSeq (zSet 3 (sBin modD (sBlt maxD (sCons (sC (.int (0))) (sCons (sBin subD (sBlt absD (sCons (sVar 2) sNil)) (sBin powD (sC (.int (10))) (sC (.int (17))))) sNil))) (sBin mulD (sBin powD (sC (.int (10))) (sC (.int (60)))) (sBin powD (sC (.int (10))) (sC (.int (57)))))))
    (zRetO (sLst (sCons (sVar 3) (sCons (sBin addD (sBin addD (sBin addD (sBin mulD (sBin modD (sBlt absD (sCons (sVar 2) sNil)) (sC (.int (1152921504606846803)))) (sC (.int (59)))) (sBin mulD (sC (.int (877))) (sVar 1))) (sBin mulD (sC (.int (47))) (sBlt intD (sCons (sBin ltD (sVar 2) (sC (.int (0)))) sNil)))) (sC (.int (5)))) (sCons (sC (.int (0))) sNil)))))))
def m__law_dice : Fm := mOf 4 2 b__law_dice
def b__law_roll : LSt → Fl := (zSeq (zIf (sTst (sBin gtD (sDie 0 0) (sC (.int (0))))) (zSeq (zSet 2 (sBin modD (sBlt intD (sCons (sDie 0 0) sNil)) (sVar 1)))
    (zSeq (zDie 0 0 (sBin divD (sDie 0 0) (sVar 1)))
    (zRet (sVar 2)))) zNext)
    (zSeq (zDie 0 2 (sBin addD (sDie 0 2) (sC (.int (1)))))
    (zSeq (zSet 3 (sBin modD (sBlt intD (sCons (sBin addD (sDie 0 1) (sBin mulD (sC (.int (86028157))) (sDie 0 2))) sNil)) (sC (.int (2305843009213693613)))))
    (zSeq (zSet 4 (sBin addD (sBin mulD (sBin modD (sBlt intD (sCons (sBin addD (sBin mulD (sVar 3) (sVar 3)) (sBin mulD (sC (.int (97))) (sDie 0 2))) sNil)) (sC (.int (2305843009213693669)))) (sC (.int (7654321)))) (sVar 3)))
    (zRet (sBin modD (sBlt intD (sCons (sBin divD (sVar 4) (sC (.int (131072)))) sNil)) (sVar 1)))))))
def m__law_roll : Fm := mOf 5 2 b__law_roll
def b__law_pick : LSt → Fl := (zRet (sBin ixD (sVar 1) (sCall m__law_roll (sCons (sVar 0) (sCons (sBlt lenD (sCons (sVar 1) sNil)) sNil)))))
def m__law_pick : Fm := mOf 2 2 b__law_pick
theorem ev_roll (t : Int × Int × Int) (n : Int) (h : 0 < n) (hn : n < 30000) : ∃ r t', m__law_roll [.dice, .int n] ⟨some t, none⟩ = .ok (.v (.int r)) ⟨some t', none⟩ ∧ 0 ≤ r ∧ r < n := by
  have sh : m__law_roll [.dice, .int n] ⟨some t, none⟩ = (b__law_roll ⟨[.v .dice, .v (.int n), .un, .un, .un], ⟨some t, none⟩⟩).fr := rfl
  have ln : n.natAbs.log2 < 15 := (Nat.log2_lt (by omega)).mpr (by omega)
  have dv : ∀ i : Int, divD (.int i) (.int n) = some (.int (i / n)) := fun i => div_ok h (by omega)
  have dv2 : ∀ i : Int, divD (.int i) (.int 131072) = some (.int (i / 131072)) := fun i => div_ok (by decide) (by decide +kernel)
  have m1 : ∀ i : Int, modD (.int i) (.int 2305843009213693613) = some (.int (i % 2305843009213693613)) := fun i => mod_ok (by decide)
  have m2 : ∀ i : Int, modD (.int i) (.int 2305843009213693669) = some (.int (i % 2305843009213693669)) := fun i => mod_ok (by decide)
  rw [sh]
  unfold b__law_roll
  by_cases d : 0 < t.1
  · refine ⟨t.1 % n, (t.1 / n, t.2.1, t.2.2), ?_, Int.emod_nonneg _ (by omega), Int.emod_lt_of_pos _ h⟩
    simp only [sDie, zDie, nth3, set3, LSt.withD, gtI, int1, d, decide_true, mod_ok h, dv, zSeq, zAsg, sVar, gTupD, gsCons, gSet, gsNil, optF, Option.bind_some, LSt.put, Res.toFl, Fl.seq, sBin, sUn, Res.bind, opt, mul_ok, addI, subI, negI, zSet, zRet, zRetN, zNext, zDrop, Fl.fr, eqI, neI, leI, ltI, sC, sTst, blD, sTru, truD, sNot, sAnd, sOr, sIf, zIf, sCons, sNil, sTup, sLst, sFrz, sBlt, sCall, sMth, frRes, LSt.withG, EV.d, CO.d, sAttr, fldD, sAndV, notD, sChain, zPar, zPar3, zAug, i2, lenD, absD, Dx.intD, tupD,
    Bool.not_true, Bool.not_false, Bool.false_eq_true, List.getElem?_cons_zero, List.getElem?_cons_succ, List.set_cons_zero, List.set_cons_succ, List.length_cons, List.length_nil, Nat.reduceAdd, reduceIte]
  · have ma : ∀ i : Int, mulD (.int 86028157) (.int i) = some (.int (86028157 * i)) := fun i => mul_ok (mulOk_bd (Bd.c _) (by decide))
    have mb : ∀ i : Int, mulD (.int 97) (.int i) = some (.int (97 * i)) := fun i => mul_ok (mulOk_bd (Bd.c _) (by decide))
    have mc : ∀ i : Int, mulD (.int (i % 2305843009213693613)) (.int (i % 2305843009213693613)) = some (.int ((i % 2305843009213693613) * (i % 2305843009213693613))) := fun i => mul_ok (mulOk_bd (Bd.md _ _ (by decide)) (by decide))
    have me : ∀ i : Int, mulD (.int (i % 2305843009213693669)) (.int 7654321) = some (.int ((i % 2305843009213693669) * 7654321)) := fun i => mul_ok (mulOk_bd (Bd.md _ _ (by decide)) (by decide))
    refine ⟨(((((t.2.1 + 86028157 * (t.2.2 + 1)) % 2305843009213693613) * ((t.2.1 + 86028157 * (t.2.2 + 1)) % 2305843009213693613) + 97 * (t.2.2 + 1)) % 2305843009213693669 * 7654321 + ((t.2.1 + 86028157 * (t.2.2 + 1)) % 2305843009213693613)) / 131072) % n, (t.1, t.2.1, t.2.2 + 1), ?_, Int.emod_nonneg _ (by omega), Int.emod_lt_of_pos _ h⟩
    simp only [sDie, zDie, nth3, set3, LSt.withD, gtI, int1, d, decide_false, mod_ok h, dv2, m1, m2, ma, mb, mc, me, zSeq, sVar, LSt.put, Res.toFl, Fl.seq, sBin, Res.bind, opt, addI, zSet, zRet, zNext, Fl.fr, sC, sTst, blD, zIf, sCons, sNil, sBlt,
      Bool.false_eq_true, List.getElem?_cons_zero, List.getElem?_cons_succ, List.set_cons_zero, List.set_cons_succ, reduceIte]
theorem ev_pick (t : Int × Int × Int) (ds : List D) (h0 : ds ≠ []) (hl : ds.length < 10000) : ∃ d t', m__law_pick [.dice, .lst ds] ⟨some t, none⟩ = .ok (.v d) ⟨some t', none⟩ ∧ d ∈ ds := by
  have hp : 0 < ds.length := List.length_pos_iff.mpr h0
  obtain ⟨r, t', e, r0, r1⟩ := ev_roll t (ds.length : Nat) (by omega) (by omega)
  have sh : m__law_pick [.dice, .lst ds] ⟨some t, none⟩ = (b__law_pick ⟨[.v .dice, .v (.lst ds)], ⟨some t, none⟩⟩).fr := rfl
  have hr : r.toNat < ds.length := by omega
  have ix : ixD (.lst ds) (.int r) = some ds[r.toNat] := by
    show atD ds r = _
    unfold atD
    rw [if_pos r0, List.getElem?_eq_getElem hr]
  refine ⟨ds[r.toNat], t', ?_, List.getElem_mem hr⟩
  rw [sh]
  unfold b__law_pick
  simp only [e, ix, zRet, sBin, sVar, sCall, sCons, sNil, sBlt, lenD, opt, Res.bind, Res.toFl, Fl.fr, LSt.withG, EV.d, List.getElem?_cons_zero, List.getElem?_cons_succ]
theorem ev_dice (ns : List Int) (k : Nat) (g : G) : ∃ x y z, m__law_dice [.scr ns, .int (0 + (k : Int))] g = .ok (.o (.lst [.int x, .int y, .int z])) g := by
  have sh : m__law_dice [.scr ns, .int (0 + (k : Int))] g = (b__law_dice ⟨[.v (.scr ns), .v (.int (0 + (k : Int))), .un, .un], g⟩).fr := rfl
  have sz3 : 3 ≤ szL := by decide
  have m1 : ∀ i : Int, modD (.int i) (.int 1152921504606846803) = some (.int (i % 1152921504606846803)) := fun i => mod_ok (by decide)
  have m2 : ∀ i : Int, modD (.int i) (.int 1000000000000000000000000000000000000000000000000000000000000000000000000000000000000000000000000000000000000000000000) = some (.int (i % 1000000000000000000000000000000000000000000000000000000000000000000000000000000000000000000000000000000000000000000000)) := fun i => mod_ok (by decide)
  have ma : ∀ i : Int, mulD (.int (i % 1152921504606846803)) (.int 59) = some (.int ((i % 1152921504606846803) * 59)) := fun i => mul_ok (mulOk_bd (Bd.md _ _ (by decide)) (by decide))
  have mb : ∀ i : Int, mulD (.int 877) (.int i) = some (.int (877 * i)) := fun i => mul_ok (mulOk_bd (Bd.c _) (by decide))
  have mc : ∀ i : Int, mulD (.int 47) (.int i) = some (.int (47 * i)) := fun i => mul_ok (mulOk_bd (Bd.c _) (by decide))
  have me : ∀ i : Int, mulD (.int 71) (.int i) = some (.int (71 * i)) := fun i => mul_ok (mulOk_bd (Bd.c _) (by decide))
  have cell : ∃ c : Int, sIf (sTst (sBin ltD (sVar 1) (sBlt lenD (sCons (sVar 0) sNil)))) (sBlt Dx.intD (sCons (sBin ixD (sVar 0) (sVar 1)) sNil)) (sBin addD (sBin mulD (sC (.int (71))) (sVar 1)) (sC (.int (23)))) ⟨[.v (.scr ns), .v (.int (0 + (k : Int))), .un, .un], g⟩ =
      .ok (.int c) ⟨[.v (.scr ns), .v (.int (0 + (k : Int))), .un, .un], g⟩ := by
    by_cases h : 0 + (k : Int) < (ns.length : Nat)
    · have ix : ixD (.scr ns) (.int (0 + (k : Int))) = some (.int (ns[k]'(by omega))) := by
        show (atD ns (0 + (k : Int))).map D.int = _
        unfold atD
        rw [if_pos (by omega), show (0 + (k : Int)).toNat = k by omega, List.getElem?_eq_getElem (by omega)]
        rfl
      refine ⟨ns[k]'(by omega), ?_⟩
      simp only [ix, len_scr, int1, h, decide_true, ltI, sIf, sTst, blD, sBin, sVar, sBlt, sCons, sNil, opt, Res.bind, List.getElem?_cons_zero, List.getElem?_cons_succ, reduceIte]
    · refine ⟨71 * (0 + (k : Int)) + 23, ?_⟩
      simp only [me, addI, sC, len_scr, h, decide_false, ltI, sIf, sTst, blD, sBin, sVar, sBlt, sCons, sNil, opt, Res.bind, Bool.false_eq_true, List.getElem?_cons_zero, List.getElem?_cons_succ, reduceIte]
  obtain ⟨c, ec⟩ := cell
  rw [sh]
  unfold b__law_dice
  refine ⟨(if (if c < 0 then -c else c) - 100000000000000000 > 0 then (if c < 0 then -c else c) - 100000000000000000 else 0) % 1000000000000000000000000000000000000000000000000000000000000000000000000000000000000000000000000000000000000000000000, (if c < 0 then -c else c) % 1152921504606846803 * 59 + 877 * (0 + (k : Int)) + 47 * (if decide (c < 0) = true then 1 else 0) + 5, 0, ?_⟩
  rw [seq_nx (l1 := ⟨[.v (.scr ns), .v (.int (0 + (k : Int))), .v (.int c), .un], g⟩) (by
    unfold zSet
    rw [ec]
    rfl)]
  simp only [zRetO, big, p60, p57, p17, ab1, mx1, int2, ltI, m1, m2, ma, mb, mc, addI, subI, sz3, zSeq, zSet, Res.toFl, Fl.seq, Fl.fr, sBin, sVar, sC, sCons, sNil, sLst, sBlt, opt, Res.bind, LSt.put,
    List.getElem?_cons_zero, List.getElem?_cons_succ, List.set_cons_zero, List.set_cons_succ, List.length_cons, List.length_nil, Nat.reduceAdd, reduceIte]
def sD (g : G) : Prop := ∃ t, g = ⟨some t, none⟩
def sN (g : G) : Prop := g = ⟨none, none⟩
def RT (S : G → Prop) (f : LSt → Fl) (l : List Slot) : Prop := ∀ g, S g → ∃ g', S g' ∧ (f ⟨l, g⟩).fr = .ok (.v (.bl true)) g'
def Ex (S : G → Prop) (f : LSt → Res D) (l : List Slot) (d : D) : Prop := ∀ g, S g → ∃ g', S g' ∧ f ⟨l, g⟩ = .ok d ⟨l, g'⟩
section
variable {S : G → Prop} {m : Fm} {fe fm fa fb : LSt → Res D} {rest fs : LSt → Fl} {l : List Slot} {i : Nat} {d : D} {ds es told : List D}
theorem RT.lend {n i : Nat} {b : LSt → Fl} (hb : RT sD b (.v .dice :: List.replicate (n - 1) .un)) {x y z : Int} (l : List Slot) (hi : l[i]? = some (.own (.lst [.int x, .int y, .int z]))) :
    ∃ x' y' z' : Int, sLend i (mOf n 1 b) sNil ⟨l, ⟨none, none⟩⟩ = .ok (.bl true) ⟨l.set i (.own (.lst [.int x', .int y', .int z'])), ⟨none, none⟩⟩ := by
  obtain ⟨g', ⟨⟨x', y', z'⟩, rfl⟩, e⟩ := hb ⟨some (x, y, z), none⟩ ⟨_, rfl⟩
  refine ⟨x', y', z', ?_⟩
  have e2 : mOf n 1 b [.dice] ⟨some (x, y, z), none⟩ = .ok (.v (.bl true)) ⟨some (x', y', z'), none⟩ := e
  simp only [sLend, hi, sNil, Res.bind, Option.bind_some, dice3, D.nods, if_true, e2, lendRes, EV.d, D.nod]
end
theorem len_scr' (ns : List Int) : lenD [.scr ns] = some (.int (ns.length : Nat)) := rfl
theorem law_loop (ns : List Int) (K : Nat) (hK : K < 90) {m : Fm} (dc : m = m__law_dice) {ct : LSt → Res Bool} {tl : List Slot}
    (test : ∀ (s1 : Slot) (x y z : Int), ∃ x' y' z' : Int, ct ⟨.v (.scr ns) :: s1 :: .own (.lst [.int x, .int y, .int z]) :: tl, ⟨none, none⟩⟩ = .ok false ⟨.v (.scr ns) :: s1 :: .own (.lst [.int x', .int y', .int z']) :: tl, ⟨none, none⟩⟩) :
    ∃ s1 s2, zForI (sWalk rng1D (sCons (sBlt maxD (sCons (sC (.int 1)) (sCons (sBlt minD (sCons (sC (.int K)) (sCons (sBlt lenD (sCons (sVar 0) sNil)) sNil))) sNil))) sNil)) (gSet 1)
      (zSeq (zSetO 2 (sCallO m (sCons (sVar 0) (sCons (sVar 1) sNil)))) (zIf ct (zRet (sC (.bl false))) zNext)) ⟨.v (.scr ns) :: .un :: .un :: tl, ⟨none, none⟩⟩ = .nx ⟨.v (.scr ns) :: s1 :: s2 :: tl, ⟨none, none⟩⟩ := by
  subst dc
  have loop := for_range (t := gSet 1) (b := (zSeq (zSetO 2 (sCallO m__law_dice (sCons (sVar 0) (sCons (sVar 1) sNil)))) (zIf ct (zRet (sC (.bl false))) zNext)))
    (Inv := fun i l => ∃ s1 s2, l = ⟨.v (.scr ns) :: s1 :: s2 :: tl, ⟨none, none⟩⟩) (max 1 (min K ns.length)) ⟨.v (.scr ns) :: .un :: .un :: tl, ⟨none, none⟩⟩ ⟨.un, .un, rfl⟩ (fun i l _ ⟨s1, s2, e⟩ => by
      subst e
      obtain ⟨x, y, z, ed⟩ := ev_dice ns i ⟨none, none⟩
      obtain ⟨x1, y1, z1, e1⟩ := test (.v (.int (0 + (i : Int)))) x y z
      refine ⟨_, _, rfl, ?_, .v (.int (0 + (i : Int))), .own (.lst [.int x1, .int y1, .int z1]), rfl⟩
      simp only [ed, e1, zSeq, zSetO, zIf, zNext, Res.toFl, Fl.seq, sCallO, sCons, sNil, sVar, Res.bind, LSt.put, LSt.withG, Bool.false_eq_true, List.getElem?_cons_zero, List.getElem?_cons_succ, List.set_cons_zero, List.set_cons_succ, reduceIte])
  obtain ⟨l2, el, s1, s2, rfl⟩ := loop
  have hw : sWalk rng1D (sCons (sBlt maxD (sCons (sC (.int 1)) (sCons (sBlt minD (sCons (sC (.int K)) (sCons (sBlt lenD (sCons (sVar 0) sNil)) sNil))) sNil))) sNil) ⟨.v (.scr ns) :: .un :: .un :: tl, ⟨none, none⟩⟩ = .ok (rangeD 0 (max 1 (min K ns.length))) ⟨.v (.scr ns) :: .un :: .un :: tl, ⟨none, none⟩⟩ := by
    have ea : (sCons (sBlt maxD (sCons (sC (.int 1)) (sCons (sBlt minD (sCons (sC (.int K)) (sCons (sBlt lenD (sCons (sVar 0) sNil)) sNil))) sNil))) sNil) ⟨.v (.scr ns) :: .un :: .un :: tl, ⟨none, none⟩⟩ = .ok [.int ((max 1 (min K ns.length) : Nat) : Int)] ⟨.v (.scr ns) :: .un :: .un :: tl, ⟨none, none⟩⟩ := by
      simp only [sCons, sNil, sBlt, sVar, sC, len_scr', mi1, mx1, opt, Res.bind, List.getElem?_cons_zero]
      congr 3
      split <;> split <;> omega
    unfold sWalk
    rw [ea, bind_ok, rng_ok (by omega), opt_some]
  refine ⟨s1, s2, ?_⟩
  unfold zForI
  rw [hw]
  exact el
theorem RT.retx {S : G → Prop} {fe : LSt → Res D} {l l1 : List Slot} (he : ∀ g, fe ⟨l, g⟩ = .ok (.bl true) ⟨l1, g⟩) : RT S (zRet fe) l := fun g hg => by
  refine ⟨g, hg, ?_⟩
  unfold zRet
  rw [he g]
  rfl
theorem RT.step {S : G → Prop} {fs rest : LSt → Fl} {l : List Slot} (h : ∀ g, S g → ∃ g' l', S g' ∧ fs ⟨l, g⟩ = .nx ⟨l', g'⟩ ∧ RT S rest l') : RT S (zSeq fs rest) l := fun g hg => by
  obtain ⟨g1, l1, h1, e, hr⟩ := h g hg
  obtain ⟨g2, h2, e2⟩ := hr g1 h1
  refine ⟨g2, h2, ?_⟩
  rw [seq_nx e]
  exact e2
theorem law_end {n : Nat} {ns : List Int} {f rest : LSt → Fl} {l1 : List Slot} (e : f ⟨.v (.scr ns) :: List.replicate (n - 1) .un, ⟨none, none⟩⟩ = .nx ⟨l1, ⟨none, none⟩⟩) (h : RT sN rest l1) : ∃ g, mOf n 1 (zSeq f rest) [.scr ns] ⟨none, none⟩ = .ok (.v (.bl true)) g := by
  obtain ⟨g, _, e2⟩ := h ⟨none, none⟩ rfl
  refine ⟨g, ?_⟩
  show (zSeq f rest ⟨.v (.scr ns) :: List.replicate (n - 1) .un, ⟨none, none⟩⟩).fr = _
  rw [seq_nx e]
  exact e2
end Ev
end Dx

namespace Dx
open PySem PySem.Spec PyProof.Rows L2

section
variable {X : Cx} {c : Ac} {W : WX} {a : Expr} {p pos : Pos} {fa : LSt → Res D}
end
def sLstOf (fe : LSt → Res D) : LSt → Res CO := fun l => (fe l).bind fun d l => match d with
  | .tup ds => .ok (.lst ds) l
  | .lst ds => .ok (.lst ds) l
  | _ => .bad
section
variable {X : Cx} {c : Ac} {W : WX} {a : Expr} {p pos : Pos} {fa : LSt → Res D}
theorem do_list (hK : X.K = c.K) (hm : X.mg "list" = none) (ha : DE X c W a fa) (hg : Gl X "list" := by rfl) (he : starEach [a] X.env = (false, eval a X.env) :: starEach [] X.env := by rfl) : DO X c W (.Call (.Name "list" p) [a] [] pos) (sLstOf fa) :=
  ⟨(pe_callTy call_list_of hg hm (by rfl) (pa_cons ha.pe pa_nil he) (by decide) (by decide) he (by rfl)).imp' fun σ H Q ⟨Hf, l, R, h⟩ => run_bind PO'.mo R h fun d l1 v H1 Hf1 R1 s1 r1 h1 => by
    cases d with
    | tup ds =>
      obtain ⟨q, vs, rfl, hq, rv⟩ := r1
      exact ⟨q, vs, rfl, .inr (by rw [hK]; exact sameT R1.sub hq), fun l n => do_new R1 h1 n ⟨vs, rfl, rv⟩⟩
    | lst ds =>
      obtain ⟨q, vs, rfl, hq, rv⟩ := r1
      exact ⟨q, vs, rfl, .inl (SqL.of (R1.sub _ _ hq)), fun l n => do_new R1 h1 n ⟨vs, rfl, rv⟩⟩
    | _ => exact h1.elim⟩
end
section
variable {X : Cx} {c : Ac} {W : WX} {x : Str} {np pos pos' : Pos} {i : Nat} {e j : Expr} {fe fj : LSt → Res D} {op : Operator} {r : TIp} {g : D → D → Option D}
end
end Dx

namespace DxE
open PySem PySem.Spec PyProof.Rows
section
variable {P : Program} {w : World} {A : Around} {E : Value → Shared → Prop} {s : Shared} {q T : Addr} {j : Nat} {xs : Array Value}
theorem draw_item {x : Value} {Q : Value → Shared → Prop} (I : s.heap.IsTupleIter q T j) (hT : s.heap.IsTuple T xs) (e : xs[j]? = some x) (hQ : ∀ h', h'.IsTupleIter q T (j + 1) → Heap.SameBut q s.heap h' → Q x { s with heap := h' }) :
    wpAny (model P w) A (Builtin.SmallTypes.nextOf (.ref q)) Q E s := by
  obtain ⟨o, eo, ec, ed⟩ := id I
  obtain ⟨oT, eT, _, nT, dT⟩ := hT
  unfold Builtin.SmallTypes.nextOf
  refine wpAny_bind (wpAny_callSpecial?_slot (name := Str.ofString "__next__") I.typeIs F.slot_tuple_iterator_next (wpAny_call_entry F.slot_tuple_iterator_next I.typeIs F.entry_tuple_iterator_next ?_ (F.args_tuple_iterator_next_1 _)))
  show wpAny _ _ (field (.ref q) 0 >>= _) _ _ s
  refine wpAny_bind (wpAny_field eo ed (x := .ref T) rfl ?_)
  show wpAny _ _ (if (Value.ref T == Value.none) = true then _ else _) _ _ s
  rw [if_neg (show ¬ ((Value.ref T == Value.none) = true) from Bool.false_ne_true)]
  show wpAny _ _ (field (.ref q) 1 >>= _) _ _ s
  refine wpAny_bind (wpAny_field eo ed (x := .int j 0) rfl ?_)
  show wpAny _ _ (seqItems? (.ref T) >>= _) _ _ s
  refine wpAny_bind (wpAny_seqItems eT dT ?_)
  simp only [Int.toNat_natCast, e]
  refine wpAny_bind (wpAny_setField eo ed (by simp) (wpAny_pure ⟨x, rfl, wpAny_pure (hQ _ ⟨_, Heap.get?_update_self _ eo (Obj.isFreed_of_fields (Obj.data_mapFields ed _)), (Obj.cls_mapFields ..).trans ec, ?_⟩ (Heap.SameBut.update ..))⟩))
  rw [Obj.data_mapFields ed]
  simp [rawInt]
theorem draw_end {Q : Value → Shared → Prop} (hA : A.handled = none) (I : s.heap.IsTupleIter q T j) (hT : s.heap.IsTuple T xs) (e : xs[j]? = none)
    (hE : ∀ h' z, Heap.ExtBut q s.heap h' → (∃ o, h'.get? z = some o ∧ o.cls = .type "StopIteration") → E (.ref z) { s with heap := h' }) : wpAny (model P w) A (Builtin.SmallTypes.nextOf (.ref q)) Q E s := by
  obtain ⟨o, eo, ec, ed⟩ := id I
  obtain ⟨oT, eT, _, nT, dT⟩ := hT
  unfold Builtin.SmallTypes.nextOf
  refine wpAny_bind (wpAny_callSpecial?_slot (name := Str.ofString "__next__") I.typeIs F.slot_tuple_iterator_next (wpAny_call_entry F.slot_tuple_iterator_next I.typeIs F.entry_tuple_iterator_next ?_ (F.args_tuple_iterator_next_1 _)))
  show wpAny _ _ (field (.ref q) 0 >>= _) _ _ s
  refine wpAny_bind (wpAny_field eo ed (x := .ref T) rfl ?_)
  show wpAny _ _ (if (Value.ref T == Value.none) = true then _ else _) _ _ s
  rw [if_neg (show ¬ ((Value.ref T == Value.none) = true) from Bool.false_ne_true)]
  show wpAny _ _ (field (.ref q) 1 >>= _) _ _ s
  refine wpAny_bind (wpAny_field eo ed (x := .int j 0) rfl ?_)
  show wpAny _ _ (seqItems? (.ref T) >>= _) _ _ s
  refine wpAny_bind (wpAny_seqItems eT dT ?_)
  simp only [Int.toNat_natCast, e]
  refine wpAny_bind (wpAny_rule (wpAny_bind (wpAny_setField eo ed (by simp) ?_)))
  show wpAny _ _ (newExc (.type "StopIteration") [] >>= _) _ _ _
  refine wpAny_bind ?_
  simp only [newExc, newTuple]
  refine wpAny_bind (wpAny_newObj_type ?_ (by size_fits)); refine wpAny_bind (m := firstArgMember _ _) (wpAny_of_eq (a := Value.none) (by first | rfl | (simp only [firstArgMember]; rfl)) ?_)
  refine wpAny_newObj_type ?_ (by size_fits); simp only [raiseNew]
  refine wpAny_bind (wpAny_handled ?_); first | rw [show A.in1.handled = none from hA] | rw [hA]
  exact wpAny_bind (wpAny_pure (wpAny_throw (hE _ _ (((Heap.SameBut.update ..).extBut.push _).push _) ⟨_, Heap.get?_push_size _ rfl, rfl⟩)))
end
theorem tupDraws {P : Program} {w : World} {A : Around} (hA : A.handled = none) (q T : Addr) (ne : T ≠ q) (xs : Array Value) : Draws P w A q [q, T] xs.size (fun i v => xs[i]? = some v) (fun i h => h.IsTupleIter q T i ∧ h.IsTuple T xs) where
  live := fun _ _ ⟨⟨o, e, _⟩, _⟩ => ⟨o, e⟩
  frame := fun _ _ _ ⟨a, o, e, r⟩ k => ⟨a.at fun o e => k q (by simp) o e, o, k T (by simp) o e, r⟩
  item := fun i s Q E hi st hQ => draw_item st.1 st.2 (x := xs[i]) (by simp [hi]) fun h' a b => hQ _ h' s.toks (by simp [hi]) ⟨a, st.2.extBut b.extBut ne⟩ b
  done := fun s Q E st hE => draw_end hA st.1 st.2 (by simp) hE
abbrev itO (T : Addr) : Obj := { cls := .type "tuple_iterator", data := .fields #[.ref T, .int 0 0] }
abbrev enO (q : Addr) : Obj := { cls := .type "enumerate", data := .fields #[.none, .bool false, .ref q, rawInt 0, .none, .none] }
theorem new_enum (T : Addr) (xs : Array Value) (n : Nat) (dct : Option Addr) (sl : Array (Option Value)) :
    Meets (Builtin.«enumerate.__new__» ⟨[.type "enumerate", .ref T], []⟩) (fun _ R s => s.heap.get? T = some { cls := .type "tuple", dict := dct, data := .seq xs n, slots := sl } ∧
      R (.ok (.ret (.ref (s.heap.push (itO T)).objs.size))) { s with heap := (s.heap.push (itO T)).push (enO s.heap.objs.size) }) :=
  .of_wp fun prog w A R s h => by
    obtain ⟨hp, g, d, tk, os⟩ := s
    obtain ⟨eT, h⟩ := h
    have hsub := sub_enumerate
    have IT : Heap.IsTuple (Shared.heap ⟨hp, g, d, tk, os⟩) T xs := ⟨_, eT, rfl, n, rfl⟩
    wp_walk using AutoSeq1.wpAny_loadPart' eT
    refine wpAny_stack_any fun st => wpAny_pure ?_
    split
    · rename_i c _ _ _ _ _
      cases (c == Value.type "enumerate")
      · wp_walk using AutoSeq1.wpAny_loadPart' eT, wpAny_pyIter_tuple IT
        exact ⟨_, rfl, h⟩
      · wp_walk using AutoSeq1.wpAny_loadPart' eT, wpAny_pyIter_tuple IT
        exact ⟨_, rfl, h⟩
    · wp_walk using AutoSeq1.wpAny_loadPart' eT, wpAny_pyIter_tuple IT
      exact ⟨_, rfl, h⟩
theorem call_enum {P : Program} {w : World} {A : Around} {E Q : Value → Shared → Prop} {s : Shared} {T : Addr} {xs : Array Value} (hT : s.heap.IsTuple T xs)
    (h : ∀ h', IsEnum h' (s.heap.objs.size + 1) s.heap.objs.size 0 .none → h'.IsTupleIter s.heap.objs.size T 0 → h'.objs.size = s.heap.objs.size + 2 → (∀ b o, s.heap.get? b = some o → h'.get? b = some o) → Q (.ref (s.heap.objs.size + 1)) { s with heap := h' }) :
    wpAny (model P w) A (call (.type "enumerate") [.ref T]) Q E s := by
  obtain ⟨⟨c, dct, dt, sl⟩, eT, ec, n, ed⟩ := hT
  replace ec : c = .type "tuple" := ec
  replace ed : dt = .seq xs n := ed
  subst ec ed
  refine callType_new F.called_enumerate (by decide) (F.typeCall_enumerate_1 _) (F.newCall_enumerate_1 _) (fun obj => F.args_object_init_2 obj _) F.entry_enumerate_new (new_enum T xs n dct sl) ⟨eT, ?_⟩
  have hz : (s.heap.push (itO T)).objs.size = s.heap.objs.size + 1 := Heap.size_push ..
  show _ ∧ _
  rw [hz]
  have he : IsEnum ((s.heap.push (itO T)).push (enO s.heap.objs.size)) (s.heap.objs.size + 1) s.heap.objs.size 0 .none := by
    have z := Heap.get?_push_size (s.heap.push (itO T)) (o := enO s.heap.objs.size) rfl
    rw [hz] at z
    exact z
  exact ⟨⟨_, he, rfl⟩, h _ he ⟨_, Heap.get?_push_of_some _ (Heap.get?_push_size _ rfl), rfl, rfl⟩ (by rw [Heap.size_push, hz]) fun b o x => Heap.get?_push_of_some _ (Heap.get?_push_of_some _ x)⟩
theorem call_next2 {P : Program} {w : World} {A : Around} {E Q : Value → Shared → Prop} {s : Shared} {g : Addr} {n : Nat} {d : Value} (hg : s.heap.IsGen g n) (h : wpAny (model P w) A.in1 (pyNext (.ref g)) (fun r s' => Q (r.getD d) s') E s) :
    wpAny (model P w) A (call (.builtin "next") [.ref g, d]) Q E s := by
  refine PySem.Calls.call_function_entry (by decide +kernel) (by decide +kernel) PySem.W.kdk_entry_next (PySem.W.kdk_args_next2 _ _) ?_
  unfold Builtin.«next»
  refine wpAny_bind (m := someArgs "next" 1 2 _) (wpAny_of_eq (a := [Value.ref g, d]) (by first | rfl | kernel_rfl!) ?_)
  dsimp only
  refine wpAny_bind (wpAny_specialOf (name := Str.ofString "__next__") hg.typeIs slot_gen_next.lookup ?_)
  refine wpAny_ite_split (fun z => absurd z (by decide)) fun _ => ?_
  exact wpAny_bind (wpAny_mono h (fun r s' q => wpAny_pure ⟨_, rfl, q⟩) fun _ _ z => z)
structure GenS2 (env : Env) (scope : Scope) (a b : PySem.Str) : Prop where
  kind : scope.kind = .function
  co : scope.isCoroutine = false
  cell : ∀ y ∈ scope.names, y.2 ≠ .cell
  dot : scope.names.lookup (".0" : PySem.Str) = some NameKind.local
  la : scope.names.lookup a = some .local
  lb : scope.names.lookup b = some .local
  ne : a ≠ b
  free : ∀ y ∈ scope.names, y.2 = .free → ∃ c, env.cells.lookup y.1 = some c
def nz (ns : List Int) (i : Nat) : Bool := match ns[i]? with
  | some n => n != 0
  | none => false
section
variable {X : L2.Cx} {pins : List (Addr × Obj)} {σ : L2.St} {H H1 : L2.Hp} {s s1 : Shared}
def Rdy (X : L2.Cx) (pins : List (Addr × Obj)) (σ : L2.St) (H1 : L2.Hp) (P : Addr) (ns : List Int) (g : Addr) (s5 : Shared) : Prop :=
  ∃ (n : Nat) (fp wr : List Addr) (G : Array GenState → Array GenState → Prop) (St : Nat → Shared → Prop), s5.heap.IsGen g n ∧
    WalksS X.prog X.w X.A.in1 g fp wr G (passing (nz ns) ns.length 0).length (fun j y => ∃ i, (passing (nz ns) ns.length 0)[j]? = some i ∧ ∃ t, y = .int (i : Int) t) St ∧ St 0 s5 ∧
    ∀ s', Moved wr G s5 s' → ∃ H2, GxR.Tabbed P H1 H2 ∧ L2.Inv X pins σ H2 s'
theorem gen_enum {c P : Addr} {xa xb : PySem.Str} {it : Expr} {te : L2.TE} {p1 p2 p3 p4 p5 p6 pa pb pt gpos : Pos} {j0 kt k : Nat} {scope : Scope} {Q' : Value → Shared → Prop} {R : List Int → L2.Hp → Prop}
    (hr : L2.Room k X.A) (TB : GxR.TabB X.base X.mg c P) (hcode : X.env.code = .ref c) (S : GenS2 X.env scope xa xb) (hi : L2.PE X it te) (hge : L2.Gl X "enumerate") (hme : X.mg "enumerate" = none) (hda : (xa == ("__debug__" : PySem.Str)) = false) (hdb : (xb == ("__debug__" : PySem.Str)) = false)
    (hst0 : starEach [it] X.env = [(false, eval it X.env)])
    (hs : ∀ v, genFold (.Call (.Name "enumerate" p2) [it] [] p3) X.env v = pure v) (I : L2.Inv X pins σ H s) (h : te σ H fun v H1 => ∃ (T : Addr) (ns : List Int), v = .ref T ∧ L2.SqT X.K H1 T (ns.map L2.V.int) ∧ GxR.TabG H1 P ∧ R ns H1)
    (hQ : ∀ ns H1 g s5, R ns H1 → Rdy X pins σ H1 P ns g s5 → Q' (.ref g) s5) :
    wpAny (model X.prog X.w) X.A (eval (.GeneratorExp (.Name xa p1) [⟨.Tuple [.Name xa pa, .Name xb pb] kt pt, .Call (.Name "enumerate" p2) [it] [] p3, [.Compare (.Name xb p4) [.NotEq] [.Constant (.int 0) j0 p5] p6], 0⟩] scope gpos) X.env) Q' X.xe s := by
  refine wpAny_GeneratorExp_walksQT hr.hd S.co (L2.closure_ok S.free) S.cell S.dot S.la S.lb S.ne S.kind (by have := hr.dp; omega) ?_ hs
  refine PyProof.Rows.Call_ (L2.ld_blt I hge hme boot_enumerate (PyProof.Rows.callWith_type1 (L2.thn ((L2.pa_cons hi L2.pa_nil (by rw [hst0]; rfl)).run p3 pins s σ H (fun vs H1 => match vs with | [v] => (∃ (T : Addr) (ns : List Int), v = .ref T ∧ L2.SqT X.K H1 T (ns.map L2.V.int) ∧ GxR.TabG H1 P ∧ R ns H1) | _ => False) I h) fun us s1 ⟨vs, H1, I1, r1, q1⟩ => ?_) hst0 rfl))
  cases r1 with
  | nil => exact q1.elim
  | @cons v u vs2 us2 ru rest =>
  cases rest with
  | cons _ _ => exact q1.elim
  | nil =>
  obtain ⟨T, ns, rfl, hT, ⟨ps, hP, ht⟩, hR⟩ := (show ∃ (T : Addr) (ns : List Int), v = .ref T ∧ L2.SqT X.K H1 T (ns.map L2.V.int) ∧ GxR.TabG H1 P ∧ R ns H1 from q1)
  cases ru
  obtain ⟨its, rv, tT, hz⟩ := I1.tuple hT
  have hlen : its.length = ns.length := by rw [← rv.length, List.length_map]
  refine call_enum tT fun h' he hit hsz2 k2 => wpAny_pyIter_enum he ?_
  have Tlt : T < s1.heap.objs.size := tT.lt
  have hPs : s1.heap.get? P = some { cls := .none, data := .fields ps } := I1.hok P _ hP
  have Plt : P < s1.heap.objs.size := Heap.lt_size hPs
  have hP2 : h'.get? P = some { cls := .none, data := .fields ps } := k2 _ _ hPs
  have cd : PySem.W.CodeHd h' c P := TB.code.keeps fun b u e => k2 _ _ (I1.bk b u e)
  have lim2 : h'.NoLimit := I1.nolimit.keeps k2
  have tT2 : h'.IsTuple T its.toArray := let ⟨o, e, r⟩ := tT; ⟨o, k2 _ _ e, r⟩
  have hsize : its.toArray.size = ns.length := by rw [List.size_toArray, hlen]
  have W := fun (A' : Around) (hA : A'.handled = none) => (WalksT.enumerateD (A := A') (tupDraws (P := X.prog) (w := X.w) (A := A'.in1) hA s1.heap.objs.size T (Nat.ne_of_lt Tlt) its.toArray) (s1.heap.objs.size + 1) (Nat.succ_ne_self _)
    (fun z => by
      rcases List.mem_cons.mp z with z | z
      · exact Nat.succ_ne_self _ z
      · have z : s1.heap.objs.size + 1 = T := List.mem_singleton.mp z
        exact Nat.lt_irrefl _ (Nat.lt_of_succ_lt (show s1.heap.objs.size + 1 < s1.heap.objs.size from z ▸ Tlt))) List.mem_cons_self).toU
  have hcP : cStatics ≠ P := fun e => by
    obtain ⟨_, hns, _⟩ := I1.nolimit
    obtain ⟨o2, es, ep, ho, hd, _⟩ := hns
    rw [e, hPs] at ho
    cases ho
    cases hd
  have hcl : cStatics < s1.heap.objs.size := let ⟨_, hns, _⟩ := I1.nolimit; hns.lt
  have cont : ∀ (code : Value) (h3 : Heap) (tk : Nat) (ps' : Array Value), Heap.ExtBut P h' h3 → h'.objs.size ≤ h3.objs.size → h3.get? P = some { cls := .none, data := .fields ps' } → (∃ more, ps' = ps ++ more) → TriplesOk ps'.toList →
      wpAny (model X.prog X.w) X.A (builtinsFor X.env.globals X.env.builtins) (fun bi s₄ =>
        ∃ Ie fp wr n₀ Pt St₀ Mid pz F, Value.ref (s1.heap.objs.size + 1) = .ref Ie ∧ (∀ A' : Around, A'.handled = none → WalksU X.prog X.w A' Ie fp wr n₀ Pt St₀ Mid) ∧ (∀ i vals, Pt i vals → ∃ va vb, vals = #[va, vb]) ∧ St₀ 0 s₄.heap ∧ (∀ b ∈ fp, b < s₄.heap.objs.size) ∧ s₄.heap.NoLimit ∧ cStatics ∉ wr ∧
          (∀ href : Heap, (∀ b o, s₄.heap.get? b = some o → href.get? b = some o) →
            QuietGenT X.prog X.w (genEnv scope (L2.cloFrom X.env.cells scope.names []) s₄.heap.objs.size code bi X.env) xa xb [.Compare (.Name xb p4) [.NotEq] [.Constant (.int 0) j0 p5] p6] (.Name xa p1) (List.range s₄.heap.objs.size) wr Pt pz F href) ∧
          (∀ a h₅ tk gs, gs.bare = true → s₄.heap.objs.size < a → h₅.objs.size = a + 1 → (∀ b o, s₄.heap.get? b = some o → h₅.get? b = some o) →
            WalksS X.prog X.w X.A.in4 a (a :: s₄.heap.objs.size :: List.range s₄.heap.objs.size) (s₄.heap.objs.size :: wr) (GenOnlyQ s₄.gens.size) (passing pz n₀ 0).length
              (fun j y => ∃ i, (passing pz n₀ 0)[j]? = some i ∧ F i y) (GenAt X.prog X.w X.A.in4 a s₄.gens.size s₄.heap.objs.size (List.range s₄.heap.objs.size) wr pz n₀ F) →
            GenAt X.prog X.w X.A.in4 a s₄.gens.size s₄.heap.objs.size (List.range s₄.heap.objs.size) wr pz n₀ F 0 { s₄ with gens := s₄.gens.push gs, toks := tk, heap := h₅ } →
            Q' (.ref a) { s₄ with gens := s₄.gens.push gs, toks := tk, heap := h₅ })) X.xe { s1 with heap := h3, toks := tk } := by
    intro code h3 tk ps' hx hsz hP3 hmore ht3
    obtain ⟨bm, ob, e1, e2, e3, e4, e5, e6, e7, e8⟩ := TB.bm
    have k3 : ∀ b u, b ≠ P → s1.heap.get? b = some u → h3.get? b = some u := fun b u hb e => hx b u hb (k2 _ _ e)
    have fresh : ∀ b, s1.heap.objs.size ≤ b → b ≠ P := fun b hb z => Nat.lt_irrefl _ (Nat.lt_of_lt_of_le Plt (z ▸ hb))
    refine wpAny_builtinsFor (m := X.mg) (by rw [I1.ok.glob]; exact (((I1.mod.glob.keeps I1.bk).keeps k2)).extBut hx TB.gP) e1 e2 (k3 _ _ e4 (I1.bk _ _ e5)) e6 e7 e8 ?_
    refine ⟨s1.heap.objs.size + 1, _, _, its.toArray.size, _, _, _, nz ns, (fun i y => ∃ t, y = .int (i : Int) t), rfl, W, ?_, ?_, ?_, lim2.extBut hx hcP, ?_, ?_, ?_⟩
    · intro i vals ⟨t, x, _, e⟩
      exact ⟨_, _, e⟩
    · refine ⟨⟨.none, hx _ _ (fresh _ (Nat.le_succ _)) he⟩, ?_, ?_⟩
      · obtain ⟨o, e, r⟩ := hit
        exact ⟨o, hx _ _ (fresh _ (Nat.le_refl _)) e, r⟩
      · obtain ⟨o, e, r⟩ := tT
        refine ⟨o, k3 _ _ (fun z => ?_) e, r⟩
        rw [z, hPs] at e
        cases e
        cases r.1
    · intro b hb
      show b < h3.objs.size
      have sz : (s1.heap.objs.size + 2 : Nat) ≤ h3.objs.size := hsz2 ▸ hsz
      have y : (T : Nat) < s1.heap.objs.size := Tlt
      simp only [List.mem_cons, List.not_mem_nil, or_false] at hb
      rcases hb with rfl | rfl | rfl
      · exact sz
      · exact Nat.lt_of_succ_lt sz
      · exact Nat.lt_trans y (Nat.lt_of_succ_lt sz)
    · intro z
      simp only [List.mem_cons, List.not_mem_nil, or_false] at z
      rcases z with z | z
      · exact Nat.ne_of_lt (Nat.lt_succ_of_lt hcl) z
      · exact Nat.ne_of_lt hcl z
    · intro href hhref
      refine ⟨fun A' E' i va vb s₂ m₂ hA hPv hn hma hmb hk => ?_, fun A' E' i va vb s₂ m₂ hA hPv hp hn hma hmb hk => ?_⟩
      · obtain ⟨t, x, hxi, e⟩ := hPv
        obtain ⟨z1, z2⟩ : va = .int i t ∧ vb = x := by simpa using congrArg Array.toList e
        subst z1 z2
        have hi : i < ns.length := by
          rw [← hsize]
          exact (Array.getElem?_eq_some_iff.mp hxi).1
        have hv : (ns.map L2.V.int)[i]? = some (.int ns[i]) := by rw [List.getElem?_map, List.getElem?_eq_getElem hi]; rfl
        obtain ⟨u, hu, ru⟩ := rv.get hv
        have hxi2 : its[i]? = some vb := by simpa using hxi
        rw [hxi2] at hu
        cases hu
        obtain ⟨t2, rfl⟩ := ru
        have ez : nz ns i = (ns[i] != 0) := by
          unfold nz
          rw [List.getElem?_eq_getElem hi]
        simp only [List.forIn_cons, List.forIn_nil, if_true]
        refine wpAny_bind (wpAny_bind (wpAny_isTrue_Compare1 ?_))
        refine wpAny_Name (wpAny_loadName_local S.kind S.lb hn hmb ?_) hdb
        refine wpAny_Constant_int ?_
        refine PySem.P.ne_int (wpAny_truthy_bool ?_)
        exact wpAny_pure (wpAny_pure ⟨ez.symm, GxR.keeps_tok _ _⟩)
      · obtain ⟨t, x, hxi, e⟩ := hPv
        obtain ⟨z1, z2⟩ : va = .int i t ∧ vb = x := by simpa using congrArg Array.toList e
        subst z1 z2
        exact wpAny_Name (wpAny_loadName_local S.kind S.la hn hma ⟨⟨t, rfl⟩, GxR.keeps_refl _⟩) hda
    · intro g h5 tk5 gs hgb hag hsz5 hk5 W5 hat
      rw [hsize] at W5 hat
      refine hQ ns H1 g _ hR ⟨_, _, _, _, _, hat.1, W5.in4_1, hat, fun s' hm => ?_⟩
      obtain ⟨more, em⟩ := hmore
      have sz : (s1.heap.objs.size + 2 : Nat) ≤ h3.objs.size := hsz2 ▸ hsz
      have nwr : ∀ b u, s1.heap.get? b = some u → b ∉ h3.objs.size :: [s1.heap.objs.size + 1, s1.heap.objs.size] := fun b u e hb => by
        have hl := Heap.lt_size e
        simp only [List.mem_cons, List.not_mem_nil, or_false] at hb
        rcases hb with rfl | rfl | rfl
        · exact Nat.lt_irrefl _ (Nat.lt_trans hl (Nat.lt_of_succ_lt sz))
        · exact Nat.lt_irrefl _ (Nat.lt_of_succ_lt hl)
        · exact Nat.lt_irrefl _ hl
      have J := GxR.inv_tab (more := more) (h' := s'.heap) (g' := s'.gens) (d' := s'.drawn) (t' := s'.toks) I1 hP (fun b u hb e => hm.heap b u (nwr b u e) (hk5 b u (k3 b u hb e)))
        (by rw [← em]; exact hm.heap P _ (nwr P _ hPs) (hk5 P _ hP3)) (AllBare.movedS (I1.bare.push hgb) hm)
      rw [GxR.sh_eta s1 s' hm.os] at J
      exact ⟨L2.upd H1 P (.tbl (ps ++ more)), ⟨⟨ps ++ more, L2.upd_same, by rw [← em]; exact ht3⟩, fun b hb => L2.upd_ne hb⟩, J⟩
  refine ⟨lim2, ?_⟩
  cases hf : codeAmong gpos ps.toList with
  | none =>
    refine wpAny_genexprCodeX hcode (cd.code hP2 ht) (cd.tab hP2) hf fun c' h6 tk hx hge hlt hco' _ htab' _ => ?_
    obtain ⟨o1, vs, f1, tf, fl, tg, inF, tx, tt, op, _, _, _, _, _, _, _, _, _, htr, _⟩ := hco'
    exact cont _ h6 tk _ hx (Nat.le_trans hge (Nat.le_of_lt hlt)) htab'.2 ⟨_, rfl⟩ htr
  | some cv =>
    refine wpAny_genexprCode_hit hcode (cd.code hP2 ht) hf ?_
    exact cont cv h' s1.toks ps (Heap.ExtBut.refl _ _) (Nat.le_refl _) hP2 ⟨#[], by simp⟩ ht
def fstI (ns : List Int) : Option Nat := (passing (nz ns) ns.length 0)[0]?
def fstV (ns : List Int) : L2.V := match fstI ns with
  | some i => .int (i : Int)
  | none => .non
def tNx (K : PySem.W.Frag) (P : Addr) (te : L2.TE) : L2.TE := fun σ H Q => te σ H fun v H1 => ∃ (T : Addr) (ns : List Int), v = .ref T ∧ L2.SqT K H1 T (ns.map L2.V.int) ∧ GxR.TabG H1 P ∧ ∀ H2, GxR.Tabbed P H1 H2 → Q (fstV ns) H2
theorem boot_nx : bootBuiltins (Str.ofString "next") = some (.builtin "next") := by kernel_rfl
theorem pe_next {c P : Addr} {xa xb : PySem.Str} {it : Expr} {te : L2.TE} {p p1 p2 p3 p4 p5 p6 p7 pa pb pt gpos pos : Pos} {j0 j7 kt k : Nat} {scope : Scope}
    (hr : L2.Room k X.A) (TB : GxR.TabB X.base X.mg c P) (hcode : X.env.code = .ref c) (S : GenS2 X.env scope xa xb) (hi : L2.PE X it te) (hg : L2.Gl X "next") (hm : X.mg "next" = none) (hge : L2.Gl X "enumerate") (hme : X.mg "enumerate" = none)
    (hda : (xa == ("__debug__" : PySem.Str)) = false) (hdb : (xb == ("__debug__" : PySem.Str)) = false) (hst0 : starEach [it] X.env = [(false, eval it X.env)])
    (hs : ∀ v, genFold (.Call (.Name "enumerate" p2) [it] [] p3) X.env v = pure v)
    (he : starEach [.GeneratorExp (.Name xa p1) [⟨.Tuple [.Name xa pa, .Name xb pb] kt pt, .Call (.Name "enumerate" p2) [it] [] p3, [.Compare (.Name xb p4) [.NotEq] [.Constant (.int 0) j0 p5] p6], 0⟩] scope gpos, .Constant .none j7 p7] X.env =
      (false, eval (.GeneratorExp (.Name xa p1) [⟨.Tuple [.Name xa pa, .Name xb pb] kt pt, .Call (.Name "enumerate" p2) [it] [] p3, [.Compare (.Name xb p4) [.NotEq] [.Constant (.int 0) j0 p5] p6], 0⟩] scope gpos) X.env) :: starEach [.Constant .none j7 p7] X.env := by rfl)
    (he2 : starEach [.Constant .none j7 p7] X.env = [(false, eval (.Constant .none j7 p7) X.env)] := by rfl) :
    L2.PE X (.Call (.Name "next" p) [.GeneratorExp (.Name xa p1) [⟨.Tuple [.Name xa pa, .Name xb pb] kt pt, .Call (.Name "enumerate" p2) [it] [] p3, [.Compare (.Name xb p4) [.NotEq] [.Constant (.int 0) j0 p5] p6], 0⟩] scope gpos, .Constant .none j7 p7] [] pos) (tNx X.K P te) := by
  refine ⟨fun pins s σ H Q I h => ?_⟩
  refine wpAny_Call_Name_kw (L2.ld_blt I hg hm boot_nx ?_)
  refine PyProof.Rows.callWith_builtin1 ?_ he (by rw [he2]; rfl)
  rw [he, he2]
  refine Calls.spliced_cons (gen_enum (R := fun ns H1 => ∀ H2, GxR.Tabbed P H1 H2 → Q (fstV ns) H2) hr TB hcode S hi hge hme hda hdb hst0 hs I h fun ns H1 g s5 hR hG => ?_)
  obtain ⟨n, fp, wr, G, St, hgen, W, hst, hI⟩ := hG
  show wpAny _ _ (spliced [(false, eval (.Constant .none j7 p7) X.env)]) _ _ s5
  refine Calls.spliced_cons (wpAny_Constant_none (Calls.spliced_nil ?_))
  refine call_next2 hgen ?_
  cases e : (passing (nz ns) ns.length 0)[0]? with
  | none =>
    have len : (passing (nz ns) ns.length 0).length = 0 := Nat.le_zero.mp (List.getElem?_eq_none_iff.mp e)
    refine W.done s5 _ _ (by rw [len]; exact hst) fun s' hm => ?_
    obtain ⟨H2, hT, J⟩ := hI s' hm
    refine ⟨.non, H2, J, rfl, ?_⟩
    have q := hR H2 hT
    unfold fstV fstI at q
    rw [e] at q
    exact q
  | some i =>
    have len : 0 < (passing (nz ns) ns.length 0).length := (List.getElem?_eq_some_iff.mp e).1
    refine W.item 0 s5 _ _ len hst fun v s' hP _ hm => ?_
    obtain ⟨i2, e2, t, rfl⟩ := hP
    rw [e] at e2
    cases e2
    obtain ⟨H2, hT, J⟩ := hI s' hm
    refine ⟨.int (i : Int), H2, J, ⟨t, rfl⟩, ?_⟩
    have q := hR H2 hT
    unfold fstV fstI at q
    rw [e] at q
    exact q
end
end DxE
namespace Dx
open PySem PySem.Spec PyProof.Rows L2
section
variable {c : Ac} {Hf H : Hp} {σ : L2.St} {l : LSt}
theorem REnv.tblPutG (R : REnv c Hf σ H l) {P : Addr} {ps ps' : Array Value} (hq : c.tg P = true) (hq2 : c.tq P = none) (hP : H P = some (.tbl ps)) (ht : TriplesOk ps'.toList) : REnv c Hf σ (upd H P (.tbl ps')) l := by
  have hT : isT c.toCn P := .inr hq
  have nd : ∀ {a : Addr}, ¬ isD c.toCn l.g c.ad a → a ≠ P := fun {a} h z => h (.inr (.inr (z ▸ hT)))
  have nf : Hf P = none := (R.dice.tb.gen P hq).1
  have nt : ∀ {a : Addr} {o : HO}, H a = some o → (∀ ps, o ≠ .tbl ps) → a ≠ P := fun {a o} e h z => by
    rw [z, hP] at e
    exact h ps (Option.some.inj e).symm
  refine ⟨R.len, fun j s hj => ?_, R.dis, fun b u hb => ?_, R.base, fun b u hb => ?_, ⟨fun x y z e => ?_, fun n fs e => ?_, ⟨fun P2 q2 h2 => ?_, fun P2 h2 => ?_⟩, R.dice.tp.up⟩, R.hgs⟩
  · obtain ⟨x, e, r⟩ := R.slot j s hj
    refine ⟨x, e, ?_⟩
    cases s with
    | un => exact True.intro
    | v d => exact r
    | slf => exact r
    | fn => exact r
    | er _ _ => exact r
    | own co =>
      obtain ⟨a, o, q1, h, r, n, n0, d⟩ := r
      exact ⟨a, o, q1, by rw [upd_ne (nd d)]; exact h, r, n, n0, d⟩
  · rw [upd_ne (fun z => by rw [z, nf] at hb; cases hb)]
    exact R.sub b u hb
  · obtain ⟨h1, h2, h3⟩ := R.frame b u hb
    exact ⟨by rw [upd_ne (nd h3)]; exact h1, h2, h3⟩
  · obtain ⟨h1, h2⟩ := R.dice.dc x y z e
    exact ⟨h1, by rw [upd_ne (nt h2 fun ps z => by cases z)]; exact h2⟩
  · obtain ⟨q1, q2, q3, q4, us, q5, q6⟩ := R.dice.obj n fs e
    have n2 : c.ad.od ≠ P := by
      rcases q4 with h | h
      · exact nt h fun ps z => by cases z
      · exact nt h fun ps z => by cases z
    have n1 : c.ad.oa ≠ P := by
      rcases q5 with ⟨h, _⟩ | ⟨h, _⟩
      · exact nt h fun ps z => by cases z
      · exact nt h fun ps z => by unfold SlX.SlO at z; cases z
    exact ⟨q1, q2, q3, by rw [upd_ne n2]; exact q4, us, slt_upd q5 n1 n2, q6⟩
  · obtain ⟨h1, h3⟩ := R.dice.tb.lam P2 q2 h2
    exact ⟨h1, h3.keep (Same.refl _) (upd_ne (fun z => by rw [z, hq2] at h2; cases h2))⟩
  · obtain ⟨h1, ps2, h3, h4⟩ := R.dice.tb.gen P2 h2
    by_cases e : P2 = P
    · subst e
      exact ⟨h1, ps', upd_same, ht⟩
    · exact ⟨h1, ps2, by rw [upd_ne e]; exact h3, h4⟩
end
def nextD : D → Option D
  | .tup ds => (intsD ds).map fun ns => match DxE.fstI ns with
    | some i => .int (i : Int)
    | none => .non
  | _ => none
section
variable {X : Cx} {c : Ac} {W : WX} {cn : Cn} {k : Nat} {cc P : Addr} {xa xb : Str} {it : Expr} {fe : LSt → Res D} {p p1 p2 p3 p4 p5 p6 p7 pa pb pt gpos pos : Pos} {j0 j7 kt : Nat} {scope : Scope}
theorem de_next (Z : Ctx X c W cn k) (TB : GxR.TabB X.base X.mg cc P) (hcode : X.env.code = .ref cc) (hq : cn.tg P = true) (hq2 : cn.tq P = none) (S : DxE.GenS2 X.env scope xa xb) (hi : DE X c W it fe) (hm : X.mg "next" = none) (hme : X.mg "enumerate" = none)
    (hg : Gl X "next" := by rfl) (hge : Gl X "enumerate" := by rfl) (hda : (xa == ("__debug__" : Str)) = false := by decide) (hdb : (xb == ("__debug__" : Str)) = false := by decide) (hst0 : starEach [it] X.env = [(false, eval it X.env)] := by rfl)
    (hs : ∀ v, genFold (.Call (.Name "enumerate" p2) [it] [] p3) X.env v = pure v := by intros; rfl)
    (he : starEach [.GeneratorExp (.Name xa p1) [⟨.Tuple [.Name xa pa, .Name xb pb] kt pt, .Call (.Name "enumerate" p2) [it] [] p3, [.Compare (.Name xb p4) [.NotEq] [.Constant (.int 0) j0 p5] p6], 0⟩] scope gpos, .Constant .none j7 p7] X.env =
      (false, eval (.GeneratorExp (.Name xa p1) [⟨.Tuple [.Name xa pa, .Name xb pb] kt pt, .Call (.Name "enumerate" p2) [it] [] p3, [.Compare (.Name xb p4) [.NotEq] [.Constant (.int 0) j0 p5] p6], 0⟩] scope gpos) X.env) :: starEach [.Constant .none j7 p7] X.env := by rfl)
    (he2 : starEach [.Constant .none j7 p7] X.env = [(false, eval (.Constant .none j7 p7) X.env)] := by rfl) :
    DE X c W (.Call (.Name "next" p) [.GeneratorExp (.Name xa p1) [⟨.Tuple [.Name xa pa, .Name xb pb] kt pt, .Call (.Name "enumerate" p2) [it] [] p3, [.Compare (.Name xb p4) [.NotEq] [.Constant (.int 0) j0 p5] p6], 0⟩] scope gpos, .Constant .none j7 p7] [] pos) (sUn nextD fe) :=
  ⟨(DxE.pe_next Z.hr.toRoom TB hcode S hi.pe hg hm hge hme hda hdb hst0 hs he he2).imp' fun σ H Q ⟨Hf, l, R, h⟩ => run_bind PD.mo R h fun d l1 v H1 Hf1 R1 s1 r1 h1 => by
    cases d with
    | tup ds =>
      obtain ⟨T, vs, rfl, hT, rv⟩ := r1
      have h1 : wpR (opt ((intsD ds).map fun ns => match DxE.fstI ns with
        | some i => D.int (i : Int)
        | none => .non) l1) (PD c σ Q Hf1) (PX c W σ Hf1) := h1
      cases e : intsD ds with
      | none =>
        rw [e] at h1
        exact h1.elim
      | some ns =>
        rw [e] at h1
        have ev := intsD_get e rv
        subst ev
        have tg := R1.dice.tb.gen P (by rw [Z.hc]; exact hq)
        obtain ⟨hfP, ps, hP, ht⟩ := tg
        refine ⟨T, ns, rfl, by rw [Z.hK]; exact sameT R1.sub hT, ⟨ps, hP, ht⟩, fun H2 ⟨⟨ps', hP', ht'⟩, hk⟩ => ?_⟩
        have eH : H2 = upd H1 P (.tbl ps') := by
          funext b
          by_cases eb : b = P
          · rw [eb, hP', upd_same]
          · rw [hk b eb, upd_ne eb]
        have R2 := R1.tblPutG (by rw [Z.hc]; exact hq) (by rw [Z.hc]; exact hq2) hP ht'
        rw [← eH] at R2
        refine PD.flat R2 h1 ?_
        show RVal c.toCn c.ad Hf1 (match DxE.fstI ns with
          | some i => D.int (i : Int)
          | none => D.non) (match DxE.fstI ns with
          | some i => V.int (i : Int)
          | none => V.non)
        cases DxE.fstI ns <;> rfl
    | _ => exact h1.elim⟩
end
end Dx

namespace Dx
open PySem PySem.Spec PyProof.Rows L2
theorem vals_ints : ∀ {us : List Value} {ns : List Int}, us.map (fun u => match u with
    | .int i _ => some i
    | _ => none) = ns.map some → Vals (ns.map V.int) us
  | [], [], _ => .nil
  | [], n :: ns, h => by cases h
  | u :: us, [], h => by cases h
  | u :: us, n :: ns, h => by
    rw [List.map_cons, List.map_cons, List.cons.injEq] at h
    refine .cons ?_ (vals_ints h.2)
    cases u with
    | int i t =>
      have : i = n := Option.some.inj h.1
      subst this
      exact ⟨t, rfl⟩
    | _ => cases h.1
section
variable {X : Cx} {c : Ac} {W : WX} {pos : Pos} {x : Str}
variable {a b : Expr} {fa fb : LSt → Res D}
end
end Dx

namespace Dx
open PySem PySem.Spec PyProof.Rows L2

def inK (neg : Bool) : D → D → Option D
  | k, .dK ks _ => (keyD k).map fun j => .bl (memK ks j != neg)
  | _, _ => none
section
variable {X : Cx} {c : Ac} {W : WX} {a b : Expr} {pos : Pos} {fa fb : LSt → Res D}
variable {cn : Cn} {k : Nat}
end
end Dx

namespace Dx
open PySem PySem.Spec PyProof.Rows L2
section
variable {P : Program} {w : World} {K : PySem.W.Frag} {mg : Str → Option Value} {base : Heap} {cn : Cn} {x qual : Str} {params : Arguments} {body : List Stmt} {scope : Scope} {f : Addr} {fd : FuncData} {N ps : List Str} {k : Nat} {fb : LSt → Fl} {dvs : List V} {kws : List (Str × V)}
structure TabG' (base : Heap) (K : PySem.W.Frag) (mg : Str → Option Value) (cn : Cn) (f : Addr) : Prop where
  c : cdB K f = true
  tb : GxR.TabB base mg (cdX K f) (tbX K f)
  g : cn.tg (tbX K f) = true
  q : cn.tq (tbX K f) = none
theorem initC {n : Nat} (F : FunD K x qual params body scope dvs kws f fd) (hc : cdB K f = true) (S : FnScope N ps scope)
    (hbody : ∀ (A : Around) (outer : List Env) (s : Shared) (H : Hp) (E : XK) (c : Ac), c.toCn = cn → Room k (A.deeper (envOfC qual scope s.heap.objs.size f (.ref (cdX K f)))) →
      DSs (cxOf (L2.CX P w) P w K mg base N qual scope f (.ref (cdX K f)) A outer s H E) c (fun cls d _ H' => E cls d H') body fb) : FnOk P w K mg base (L2.CX P w) (k + 1) f fd ps (fun vs H Q E => vs.length = ps.length ∧ spI cn n (mOfI N.length ps.length fb) vs H Q E) := by
  obtain ⟨oc, od, dV, kV, doc, pm, an, cdv, ct, osl, rfl, lk, hcd, _, _⟩ := F.ex
  have e : cdv = .ref (cdX K f) := cd_eq lk hc
  refine fn_of lk hcd S (fun vs H Q E h => h.1) fun A outer s H vs Q E hr h => ?_
  rw [e] at hr ⊢
  obtain ⟨hl, Hf, ad, ds, g, vs', rfl, hob, sm, dc, r, h⟩ := h
  refine ⟨_, (hbody A outer s H E { toCn := cn, hid := hidOf cn H Hf g ad, Hf0 := Hf, ad := ad, gs := g.sh } rfl hr).pss, Hf, _, env_startI (N := N) sm dc r, ?_⟩
  have hd : ds.length + 1 = ps.length := by
    rw [r.length, ← hl]
    rfl
  refine ends_ok ?_
  have h' : EndW cn ad g H Hf Q E (mOfI N.length ps.length fb ds g) := by
    cases e : mOfI N.length ps.length fb ds g with
    | ok ev g' => rw [e] at h; exact h
    | ex x g' => rw [e] at h; exact h
    | bad => rw [e] at h; exact h
  unfold mOfI at h'
  rw [if_pos hd] at h'
  rw [hd]
  exact h'
theorem io1C {cl n p : Nat} (hK : K = cn.K) (F : FunD K x qual params body scope dvs kws f fd) (hc : cdB K f = true) (S : FnScope N ps scope)
    (hbody : ∀ (A : Around) (outer : List Env) (s : Shared) (H : Hp) (E : XK) (c : Ac), Ctx (cxOf (L2.CX P w) P w K mg base N qual scope f (.ref (cdX K f)) A outer s H E) c (fun cls d _ H' => E cls d H') cn k →
      DSs (cxOf (L2.CX P w) P w K mg base N qual scope f (.ref (cdX K f)) A outer s H E) c (fun cls d _ H' => E cls d H') body fb) (hn : N.length = n := by rfl) (hp : ps.length = p := by rfl) : OkI P w K mg base cn (k + 1) f fd ps cl (mOfI n p fb) := by
  subst hn hp
  exact initC F hc S fun A outer s H E c hc hr => hbody A outer s H E c ⟨by rw [hc]; exact hK, hc, hr, takes_of rfl rfl rfl rfl, rfl, S.nd, passes_of rfl⟩
end
def genSB (scope : Scope) (a b : Str) : Bool := decide (scope.kind = .function) && !scope.isCoroutine && (scope.names.all fun y => !decide (y.2 = .cell) && !decide (y.2 = .free)) && decide (scope.names.lookup (".0" : Str) = some NameKind.local) &&
  decide (scope.names.lookup a = some .local) && decide (scope.names.lookup b = some .local) && decide (a ≠ b)
theorem genS_by {env : Env} {scope : Scope} {a b : Str} (h : genSB scope a b = true) : DxE.GenS2 env scope a b := by
  unfold genSB at h
  simp only [Bool.and_eq_true, Bool.not_eq_true', decide_eq_true_eq, decide_eq_false_iff_not, List.all_eq_true] at h
  obtain ⟨⟨⟨⟨⟨⟨h1, h2⟩, h3⟩, h4⟩, h5⟩, h6⟩, h7⟩ := h
  exact ⟨h1, h2, fun y hy => (h3 y hy).1, h4, h5, h6, h7, fun y hy e => absurd e (h3 y hy).2⟩
end Dx

namespace Dx
open PySem PySem.Spec PyProof.Rows L2

def sCm (i n j : Nat) (m : Fm) (fa fk : LSt → Res (List D)) : LSt → Res D := fun l => (fa l).bind fun ds l => (fk l).bind fun es l => if ds.length = n ∧ es.length = j then frRes l (m (.glo i :: (ds ++ es)) l.g) else .bad
structure CmOk (P : Program) (w : World) (K : PySem.W.Frag) (mg : Str → Option Value) (base : Heap) (cn : Cn) (k : Nat) (x m : Str) (i n : Nat) (ks : List Str) (fm : Fm) : Prop where
  ex : ∃ (C p g : Addr) (mc : Value), cn.gA i = C ∧ mg x = some (.ref C) ∧ ClX.CRead K C mc ∧ ClX.CMet K C mc m p g ∧ FnRK P w K mg base (L2.CX P w) k g (n + 1) ks (spF cn fm)
section
variable {X : Cx} {c : Ac} {W : WX} {cn : Cn} {k kj n i : Nat} {e : Expr} {es : List Expr} {kws : List Keyword} {pos p0 apos : Pos} {fa fk : LSt → Res (List D)} {fm : Fm} {x m : Str} {ks : List Str} {pl : Sem Bool}
theorem cm_run {σ : L2.St} {H : Hp} {Q : VK} (h : tD c W (sCm i n ks.length fm fa fk) σ H Q) :
    tA c W fa σ H fun vs H1 => tA c W fk σ H1 fun zs H2 => vs.length = n ∧ zs.length = ks.length ∧ spF c.toCn fm (.ref (c.gA i) :: (vs ++ zs)) H2 (LkP Q) (WE W σ) := by
  obtain ⟨Hf, l, R, h⟩ := h
  refine run_bindA PD.mo R h fun ds l1 vs H1 Hf1 R1 s1 r1 h1 => run_bindA PD.mo R1 h1 fun es l2 zs H2 Hf2 R2 s2 r2 h2 => ?_
  split at h2
  · rename_i hz
    exact ⟨r1.length.symm.trans hz.1, r2.length.symm.trans hz.2, spF_res (ds := .glo i :: _) R2 (RVals.cons (show RVal c.toCn c.ad Hf2 (.glo i) (V.ref (c.gA i)) from rfl) ((RVals.mono s2 _ _ r1).append r2)) h2⟩
  · exact h2.elim
theorem e_cm (Z : Ctx X c W cn k) (T : CmOk X.prog X.w X.K X.mg X.base cn kj x m i n ks fm) (hj : kj ≤ k) (ha : DA X c W (e :: es) fa) (hkw : DK X c W kws fk) (hg : Gl X x := by rfl) (hdb : (x == ("__debug__" : Str)) = false := by decide)
    (he : starEach (e :: es) X.env = (false, eval e X.env) :: starEach es X.env := by rfl) (hall : (backToKw pos (keywordEach kws X.env)).all (·.1.isSome) = true := by rfl) (hks : (backToKw pos (keywordEach kws X.env)).filterMap (·.1) = ks := by rfl)
    (hpl : ((backTo pos (starEach (e :: es) X.env)).any (·.1) || (backToKw pos (keywordEach kws X.env)).any (·.1.isNone)) = false := by rfl)
    (ht : eval (.Call (.Attribute (.Name x p0) m apos) (e :: es) kws pos) X.env = (do
      let ov ← eval (.Name x p0) X.env
      standAt apos.atName
      let (f, first) ← holding [ov] (getMethod ov m pl)
      callWith pos f first (backTo pos (starEach (e :: es) X.env)) (backToKw pos (keywordEach kws X.env))) := by rfl) : DE X c W (.Call (.Attribute (.Name x p0) m apos) (e :: es) kws pos) (sCm i n ks.length fm fa fk) := by
  obtain ⟨C, p, g, mc, hC, hm, r, cm, F⟩ := T.ex
  rw [← Z.hc] at F
  refine ⟨(pe_fz (t := fun σ H Q => tA c W fa σ H fun vs H1 => tA c W fk σ H1 fun zs H2 => vs.length = n ∧ zs.length = ks.length ∧ spF c.toCn fm (.ref (c.gA i) :: (vs ++ zs)) H2 Q (WE W σ)) ⟨fun pins s σ H Q I h => ?_⟩).imp' fun _ _ _ h => cm_run h⟩
  refine PySem.W.methodCall_KW (pl := pl) (ld_glob I hg hm ?_ hdb) ht
  refine ClX.getmethcm_ok I r cm fun s2 I2 => ?_
  have hq := ClX.pin_at I2
  refine PySem.W.callWith_of hpl (PySem.W.keeps_M (self := .ref C) cm.fi) (evalArgs_kw2 hall ?_ he)
  refine thn (ha.pa.run pos _ s2 σ H _ I2 h) fun us s3 ⟨vs, H1, I3, r3, q⟩ => thn (hkw.pk.run pos _ s3 σ H1 _ I3 q) fun ws s4 ⟨zs, H2, I4, rz, l1, l2, q2⟩ => ⟨⟨ClX.pin_at I4, I4.kIn⟩, ?_⟩
  rw [hks]
  have hc : c.gA i = C := by rw [← hC, Z.hc]
  rw [hc] at q2
  have z : wpAny (model X.prog X.w) X.A (call (.ref s.heap.objs.size) ([] ++ us) (ks.zip ws)) (EP X ((s.heap.objs.size, PySem.W.methodObj (.ref g) (.ref C)) :: pins) σ Q) X.xe s4 := by
    refine wpAny_call (PySem.W.method_call (ClX.pin_at I4) (codeAny_mono (F.mono hj X.A X.stack s4 H2 (.ref C :: us) ws (.ref C :: vs) zs Q _ Z.hr I4.env0 (.cons rfl r3) rz (congrArg Nat.succ l1) l2 q2) fun r s' hq => ?_))
    cases r with
    | error e => exact passAt Z.tk σ _ H2 s4 e s' I4 hq
    | ok fl =>
      cases fl with
      | ret u => exact I4.after hq
      | next => exact hq.elim
      | brk => exact hq.elim
      | cont => exact hq.elim
  exact thn z fun _ _ y => ClX.unpinE y
end
theorem cmB_ok {K : PySem.W.Frag} {C : Addr} {m : Str} (h : cmB K C m = true) : ClX.CRead K C (.type "type") ∧ ClX.CMet K C (.type "type") m (atX K C m) (cmG K C m) := by
  unfold cmB at h
  simp only [Bool.and_eq_true] at h
  obtain ⟨⟨⟨⟨h1, h2⟩, h3⟩, h4⟩, h5⟩ := h
  refine ⟨⟨h1, He.eqO_ok h2⟩, ?_, ?_, h5⟩
  · split at h3
    · rename_i s p C' e
      simp only [Bool.and_eq_true, decide_eq_true_eq] at h3
      obtain ⟨⟨e1, e2⟩, e3⟩ := h3
      rw [e, e1, eq_of_beq e2, eq_of_beq e3]
    · cases h3
  · unfold cmG
    split at h4
    · rename_i g rest e
      rw [e]
      exact ⟨rest, rfl⟩
    · cases h4
structure IskOk (cn : Cn) (tb : Nat → Bool) : Prop where
  own : ∀ n, tb n = true → SlX.SCls cn.K (cn.cA n) ∧ SlX.SIsi cn.K (cn.cA n) ∧ ∀ t ∈ [0, 1, 2, 3, 4, 5], PySem.W.kitOne cn.K (.ref (cn.cA n)) (.type (kindN t)) = some false
def isiK (tb : Nat → Bool) (t : Nat) : D → Option D
  | .ins n _ => if tb n = true then some (.bl false) else none
  | d => isiD t d
section
variable {X : Cx} {c : Ac} {W : WX} {cn : Cn} {k : Nat} {e : Expr} {fe : LSt → Res D} {p pt pos : Pos} {y : Str} {tb : Nat → Bool}
theorem e_isiK (t : Nat) (ht : t ∈ [0, 1, 2, 3, 4, 5]) (Z : Ctx X c W cn k) (J : IskOk cn tb) (hm : X.mg "isinstance" = none) (he : DE X c W e fe) (hmt : X.mg y = none) (hv : bootBuiltins y = some (.type (kindN t)) := by rfl) (hg : Gl X "isinstance" := by rfl) (hgt : Gl X y := by rfl)
    (hn : y ≠ "__name__" := by decide) (hd : (y == ("__debug__" : Str)) = false := by decide) (hs : starEach (e :: [.Name y pt]) X.env = (false, eval e X.env) :: starEach [.Name y pt] X.env := by rfl) (hs2 : starEach [.Name y pt] X.env = [(false, eval (.Name y pt) X.env)] := by rfl)
    (hpl : (backTo pos (starEach [.Name y pt] X.env)).any (·.1) = false := by rfl) : DE X c W (.Call (.Name "isinstance" p) [e, .Name y pt] [] pos) (sUn (isiK tb t) fe) :=
  ⟨(pe_callB (call_isi2.or (SlX.call_isiSl (u := .type (kindN t)))) hg hm (by rfl) (pa_cons he.pe (pa_cons (pe_bltn hgt hmt hv (v := .ty (kindN t)) rfl hn hd) pa_nil hs2) hs) (by decide) (by decide) hs hpl).imp' fun _ _ _ ⟨Hf, l, R, h⟩ => run_bind PD.mo R h fun d l1 v H1 Hf1 R1 s1 r1 h1 => by
    have kit : ∀ n, kindD d = some n → isiK tb t d = some (.bl (isiB n t)) → rIsi2 X.K [v, .ty (kindN t)] H1 _ := fun n ek e2 => by
      rw [e2] at h1
      refine ⟨v, .ty (kindN t), .type (kindN n), .type (kindN t), isiB n t, rfl, .ty _, ?_, ?_, h1 _ H1 Hf1 R1 (Same.refl _) rfl⟩
      · rw [Z.hK]
        exact kind_ty ek R1.sub r1
      · rw [kit_any]
        exact kit_tab n (kind_lt ek) t ht
    cases d with
    | ins n fs =>
      have h1 : wpR (opt (if tb n = true then some (D.bl false) else none) l1) (PD c _ _ Hf1) (PX c W _ Hf1) := h1
      cases e1 : tb n with
      | false =>
        rw [e1] at h1
        exact h1.elim
      | true =>
        rw [e1] at h1
        obtain ⟨a, dx, vs, rfl, ha, hdx, rv⟩ := r1
        obtain ⟨k1, k2, k3⟩ := J.own n e1
        rw [show c.cA n = cn.cA n by rw [Z.hc]] at ha
        refine .inr ⟨a, cn.cA n, dx, vs.map some, .ty (kindN t), false, rfl, rfl, fun w hw => hw, .inr ⟨R1.sub _ _ ha, R1.sub _ _ hdx⟩, ?_, ?_, ?_, h1 _ H1 Hf1 R1 (Same.refl _) rfl⟩
        · rw [Z.hK, show c.K = cn.K by rw [← Z.hc]]
          exact k1
        · rw [Z.hK, show c.K = cn.K by rw [← Z.hc]]
          exact k2
        · rw [Z.hK, show c.K = cn.K by rw [← Z.hc]]
          exact k3 t ht
    | non => exact .inl (kit _ rfl rfl)
    | bl _ => exact .inl (kit _ rfl rfl)
    | int _ => exact .inl (kit _ rfl rfl)
    | str _ => exact .inl (kit _ rfl rfl)
    | tup _ => exact .inl (kit _ rfl rfl)
    | lst _ => exact .inl (kit _ rfl rfl)
    | dK _ _ => exact .inl (kit _ rfl rfl)
    | dT _ _ => exact .inl (kit _ rfl rfl)
    | _ => exact h1.elim⟩
end
theorem iskB_ok {K : PySem.W.Frag} {A : Addr} (h : iskB K A = true) : SlX.SIsi K A ∧ ∀ t ∈ [0, 1, 2, 3, 4, 5], PySem.W.kitOne K (.ref A) (.type (kindN t)) = some false := by
  unfold iskB isB.sclT at h
  simp only [Bool.and_eq_true, decide_eq_true_eq] at h
  exact ⟨⟨h.1.1.1.1, h.1.1.1.2, h.1.1.2, h.1.2⟩, fun t ht => of_decide_eq_true (List.all_eq_true.mp h.2 t ht)⟩
end Dx

namespace Dx
open PySem PySem.Spec PyProof.Rows L2
theorem own_ne {c : Ac} {Hf H : Hp} {σ : L2.St} {l : LSt} (R : REnv c Hf σ H l) {p : Addr} (hp : H p = none) (j : Nat) (s : Slot) (hj : l.sl[j]? = some s) (ho : isOwn s = true) : σ[j]? ≠ some (some (.ref p)) := fun e => by
  cases s with
  | own co' =>
    obtain ⟨a', o', e', ha', _⟩ := R.own hj
    rw [e'] at e
    cases e
    rw [hp] at ha'
    cases ha'
  | _ => cases ho
section
variable {X : Cx} {c : Ac} {W : WX} {i j : Nat} {x y : Str} {es : List Expr} {px py pt pos p1 p2 : Pos} {kt k2 pt2} {fa : LSt → Res (List D)}
end
end Dx

namespace Dx
open PySem PySem.Spec PyProof.Rows L2

mutual
def toPy : D → Option PyData
  | .non => some .none
  | .bl b => some (.bool b)
  | .int i => some (.int i)
  | .str x => some (.str x)
  | .tup ds => (toPys ds).map .tuple
  | .lst ds => (toPys ds).map .list
  | _ => none
def toPys : List D → Option (List PyData)
  | [] => some []
  | d :: ds => match toPy d, toPys ds with
    | some x, some xs => some (x :: xs)
    | _, _ => none
end
theorem reads_tup {h : Heap} {a : Addr} {its : List Value} {ps : List PyData} {as : List Addr} (t : IsTup h a its.toArray) (r : ReadsAll h its ps as) : Reads h (.ref a) (.tuple ps) as := by
  obtain ⟨o, h1, h2, n, h3⟩ := t
  exact .tuple h1 h2 h3 r
theorem reads_lst {h : Heap} {a : Addr} {its : List Value} {ps : List PyData} {as : List Addr} (t : PlainL h a its.toArray) (r : ReadsAll h its ps as) : Reads h (.ref a) (.list ps) (a :: as) := by
  obtain ⟨o, n, h1, h2, _, h3⟩ := t
  exact .list h1 h2 h3 r
section
variable {X : Cx} {cn : Cn} {ad : Ad} {pins : List (Addr × Obj)} {σ : L2.St} {H Hf : Hp} {s : Shared}
mutual
theorem toPy_reads (hK : X.K = cn.K) (I : Inv X pins σ H s) (sub : Same Hf H) : ∀ (d : D) (v : V) (u : Value) (p : PyData), RVal cn ad Hf d v → RelV v u → toPy d = some p → ∃ as, Reads s.heap u p as
  | .non, v, u, p, h, r, e => by
    cases (show v = .non from h); cases (show u = .none from r); cases e
    exact ⟨_, .none⟩
  | .bl b, v, u, p, h, r, e => by
    cases (show v = .bl b from h); cases (show u = .bool b from r); cases e
    exact ⟨_, .bool b⟩
  | .int i, v, u, p, h, r, e => by
    cases (show v = .int i from h)
    obtain ⟨t, rfl⟩ := r
    cases e
    exact ⟨_, .int i t⟩
  | .str x, v, u, p, h, r, e => by
    cases (show v = .str x from h)
    obtain ⟨t, rfl⟩ := r
    cases e
    exact ⟨_, .str x t⟩
  | .tup ds, v, u, p, h, r, e => by
    obtain ⟨a, vs, q, h1, rs⟩ := h
    rw [q] at r
    have eu : u = .ref a := r
    rw [eu]
    unfold toPy at e
    obtain ⟨ps, e1, e2⟩ := Option.map_eq_some_iff.mp e
    have hs : SqT X.K H a vs := by rw [hK]; exact sameT sub h1
    obtain ⟨its, rv, ht, _⟩ := I.tuple hs
    obtain ⟨as, ra⟩ := toPys_reads hK I sub ds vs its ps rs rv e1
    rw [← e2]
    exact ⟨_, reads_tup ht ra⟩
  | .lst ds, v, u, p, h, r, e => by
    obtain ⟨a, vs, q, h1, rs⟩ := h
    rw [q] at r
    have eu : u = .ref a := r
    rw [eu]
    unfold toPy at e
    obtain ⟨ps, e1, e2⟩ := Option.map_eq_some_iff.mp e
    have hs : SqL X.K H a vs := SqL.of (sub _ _ h1)
    obtain ⟨its, rv, ht, _⟩ := I.list hs
    obtain ⟨as, ra⟩ := toPys_reads hK I sub ds vs its ps rs rv e1
    rw [← e2]
    exact ⟨_, reads_lst ht ra⟩
  | .dK _ _, v, u, p, h, r, e => nomatch e
  | .dT _ _, v, u, p, h, r, e => nomatch e
  | .ins _ _, v, u, p, h, r, e => nomatch e
  | .scr _, v, u, p, h, r, e => nomatch e
  | .ty _, v, u, p, h, r, e => nomatch e
  | .glo _, v, u, p, h, r, e => nomatch e
  | .dice, v, u, p, h, r, e => nomatch e
  | .rng _ _, v, u, p, h, r, e => nomatch e
  | .gtp _, v, u, p, h, r, e => nomatch e
termination_by structural d => d
theorem toPys_reads (hK : X.K = cn.K) (I : Inv X pins σ H s) (sub : Same Hf H) : ∀ (ds : List D) (vs : List V) (us : List Value) (ps : List PyData), RVals cn ad Hf ds vs → Vals vs us → toPys ds = some ps → ∃ as, ReadsAll s.heap us ps as
  | [], vs, us, ps, h, r, e => by
    cases (show vs = [] from h)
    cases r
    cases e
    exact ⟨_, .nil⟩
  | d :: ds, vs, us, ps, ⟨v, vr, q, h, hs⟩, r, e => by
    subst q
    cases r with
    | cons r1 rs =>
      unfold toPys at e
      cases e1 : toPy d with
      | none => rw [e1] at e; cases e
      | some x =>
        cases e2 : toPys ds with
        | none => rw [e1, e2] at e; cases e
        | some xs =>
          rw [e1, e2] at e
          cases e
          obtain ⟨a1, z1⟩ := toPy_reads hK I sub d v _ x h r1 e1
          obtain ⟨a2, z2⟩ := toPys_reads hK I sub ds vr _ xs hs rs e2
          exact ⟨_, .cons z1 z2⟩
termination_by structural ds => ds
end
end
section
variable {X : Cx} {c : Ac} {W : WX} {cn : Cn} {k : Nat} {a : Expr} {p pos : Pos} {fa : LSt → Res D}
end
end Dx

namespace GQ
open PySem PySem.SeqAt
open AutoSeq1 (wpAny_loadPart')
open MeetsSeq MeetsSeq2 MeetsSeq3 SeqRoads2
section
variable {prog : Program} {w : World} {A : Around} {R : Result → Shared → Prop}
theorem ne_loopG (l b : Addr) (N : Nat) (I : Nat → Shared → Prop) (hl : ListI prog w A (fun e s' => R (.error e) s') l b N I)
    (fin : ∀ s, I N s → R (.ok (.ret (.bool false))) s) (k : Nat) :
    ∀ i : Nat, N - i = k → i ≤ N → ∀ s, I i s →
      wpAny (model prog w) A.in1 (Builtin.«list.__eq__.loop» ⟨[.ref l, .ref b, rawInt i, rawInt 3], []⟩) (FinOf prog w A R) (fun e s' => R (.error e) s') s := by
  induction k with
  | zero =>
    intro i hk hi s h
    obtain ⟨items, items2, n, n2, hl1, hb1, hs1, hs2, _⟩ := hl _ _ h
    have hi' : i = N := by omega
    have hR : R (.ok (.ret (.bool false))) s := fin s (hi' ▸ h)
    obtain ⟨hp, g, d, tk, os⟩ := s
    wp_walk using wpAny_loadPart' hl1, wpAny_loadPart' hb1
    have hi1 : items[((i : Nat) : Int).toNat]? = none := by simp; omega
    have hi2 : items2[((i : Nat) : Int).toNat]? = none := by simp; omega
    rw [hi1, hi2]
    wp_walk using wpAny_loadPart' hl1, wpAny_loadPart' hb1
    show R (.ok (.ret (.bool (items.size != items2.size)))) _
    rw [hs1, hs2]
    simpa using hR
  | succ k ih =>
    intro i hk hi s h
    obtain ⟨items, items2, n, n2, hl1, hb1, hs1, hs2, turn⟩ := hl _ _ h
    have hlt : i < items.size := by omega
    have hlt2 : i < items2.size := by omega
    have ht := turn hlt hlt2
    obtain ⟨hp, g, d, tk, os⟩ := s
    wp_walk using wpAny_loadPart' hl1, wpAny_loadPart' hb1
    have hi1 : items[((i : Nat) : Int).toNat]? = some items[i] := by simp [hlt]
    have hi2 : items2[((i : Nat) : Int).toNat]? = some items2[i] := by simp [hlt2]
    have hc : ((i : Int) + 1) = ((i + 1 : Nat) : Int) := by omega
    rw [hi1, hi2]
    refine wpAny_bind (wpAny_mono ht (fun r s2 h2 => ?_) fun _ _ x => x)
    obtain ⟨hr, h2⟩ := h2
    subst hr
    have hrec := ih (i + 1) (by omega) (by omega) s2 h2
    obtain ⟨hp2, g2, d2, tk2, os2⟩ := s2
    wp_walk
    rw [hc]
    exact ⟨plainId_quiet plain_eq_loop _, codeAny_builtin entry_eq_loop (by
      rw [Around.under_plainId plain_eq_loop _]
      exact hrec)⟩
theorem list_neG (l b : Addr) (N : Nat) (I : Nat → Shared → Prop) (hl : ListI prog w A (fun e s' => R (.error e) s') l b N I)
    (fin : ∀ s, I N s → R (.ok (.ret (.bool false))) s) {s : Shared} (h : I 0 s) :
    wpAny (model prog w) A.in1 (Builtin.«list.__ne__» ⟨[.ref l, .ref b], []⟩) (FinOf prog w A R) (fun e s' => R (.error e) s') s := by
  obtain ⟨items, items2, n, n2, hl1, hb1, hs1, hs2, _⟩ := hl _ _ h
  have hrec := ne_loopG (A := A) (R := R) l b N I hl fin _ 0 rfl (Nat.zero_le _) s h
  obtain ⟨hp, g, d, tk, os⟩ := s
  have f3 := AutoSeq1.sub_list_list
  have hne : ¬ (items.size != items2.size) = true := by simp [hs1, hs2]
  wp_walk using wpAny_loadPart' hl1, wpAny_loadPart' hb1
  exact ⟨plainId_quiet plain_eq_loop _, codeAny_builtin entry_eq_loop (by
    rw [Around.under_plainId plain_eq_loop _]
    exact hrec)⟩
end
section
variable {prog : Program} {w : World} {A : Around} {E : Value → Shared → Prop} {s : Shared}
theorem rc_list_neG {l b : Addr} {N : Nat} {Q : Value → Shared → Prop} (hu : A.units < cLine) (I : Nat → Shared → Prop) (hl : ListI prog w A E l b N I)
    (fin : ∀ s, I N s → Q (.bool false) s) (h : I 0 s) : wpAny (model prog w) A (richCompare .NotEq (.ref l) (.ref b)) Q E s := by
  obtain ⟨items, items2, n, n2, hl1, hb1, _, _, _⟩ := hl _ _ h
  refine wpAny_richCompare_same_room (op := .NotEq) ⟨_, hl1, rfl⟩ ⟨_, hb1, rfl⟩ F.slot_list_ne (call_here F.slot_list_ne ⟨_, hl1, rfl⟩ F.entry_list_ne (F.args_list_ne_2 _ _) ?_) hu
  exact list_neG (R := wants (fun v s' => v ≠ .notImplemented ∧ Q v s') E) l b N I hl (fun s' q => ⟨(fun x => nomatch x), fin s' q⟩) h
end
end GQ
namespace Dx
open PySem PySem.Spec PyProof.Rows L2

abbrev g0 : G := ⟨none, none⟩
section
variable {c : Ac} {W : WX} {Hf H Hf' H' : Hp} {σ : L2.St} {l : LSt} {g' : G}
theorem isD0 {cn : Cn} {ad : Ad} {a : Addr} (h : isD cn g0 ad a) : isT cn a := by
  rcases h with ⟨h, _⟩ | ⟨h, _⟩ | h
  · exact nomatch h
  · exact nomatch h
  · exact h
theorem dice0 {cn : Cn} {ad : Ad} {g : G} (R : DiceOk cn Hf H ad g) : DiceOk cn Hf H ad g0 := ⟨fun _ _ _ q => (nomatch q), fun _ _ q => (nomatch q), R.tb, R.tp⟩
theorem REnv.pure (R : REnv c Hf σ H l) (A : Aft c.toCn c.ad g0 g' H Hf H' Hf') : REnv c Hf' σ H' l := by
  have fr : ∀ a o, H a = some o → Hf a = none → ¬ isT c.toCn a → H' a = some o ∧ Hf' a = none := fun a o h1 h2 h3 => A.frame a o h1 h2 fun z => h3 (isD0 z)
  have fr2 : ∀ a o, H a = some o → Hf a = none → ¬ isD c.toCn l.g c.ad a → H' a = some o ∧ Hf' a = none := fun a o h1 h2 h3 => fr a o h1 h2 fun z => h3 (.inr (.inr z))
  have noT : ∀ {a : Addr} {o : HO}, H a = some o → (∀ ps, o ≠ .tbl ps) → ¬ isT c.toCn a := fun {a o} e n z => R.dice.tb.ne z e n rfl
  refine ⟨R.len, fun i s hs => ?_, R.dis, A.sub, R.base.trans A.grow, fun a o h => ?_, ⟨fun x y z q => ?_, fun n fs q => ?_, A.dice.tb, A.dice.tp⟩, R.hgs⟩
  · obtain ⟨x, e, r⟩ := R.slot i s hs
    exact ⟨x, e, r.keep A.grow fun a o h1 h2 _ h4 => fr2 a o h1 h2 h4⟩
  · obtain ⟨h1, h2, h3⟩ := R.frame a o h
    obtain ⟨e1, e2⟩ := fr2 a o h1 h2 h3
    exact ⟨e1, e2, h3⟩
  · obtain ⟨h1, h2⟩ := R.dice.dc x y z q
    obtain ⟨e1, e2⟩ := fr _ _ h2 h1 (noT h2 fun ps z => nomatch z)
    exact ⟨e2, e1⟩
  · obtain ⟨q1, q2, q3, q4, us, q5, q6⟩ := R.dice.obj n fs q
    have e4 : H' c.ad.od = H c.ad.od ∧ Hf' c.ad.od = none := by
      rcases q4 with q4 | q4
      · obtain ⟨z1, z2⟩ := fr _ _ q4 q2 (noT q4 fun ps z => nomatch z)
        exact ⟨z1.trans q4.symm, z2⟩
      · obtain ⟨z1, z2⟩ := fr _ _ q4 q2 (noT q4 fun ps z => nomatch z)
        exact ⟨z1.trans q4.symm, z2⟩
    have e5 : H' c.ad.oa = H c.ad.oa ∧ Hf' c.ad.oa = none := by
      rcases q5 with ⟨q5, _⟩ | ⟨q5, _⟩
      · obtain ⟨z1, z2⟩ := fr _ _ q5 q1 (noT q5 fun ps z => nomatch z)
        exact ⟨z1.trans q5.symm, z2⟩
      · obtain ⟨z1, z2⟩ := fr _ _ q5 q1 (noT q5 fun ps z => nomatch z)
        exact ⟨z1.trans q5.symm, z2⟩
    refine ⟨e5.2, e4.2, q3, by rw [e4.1]; exact q4, us, ?_, q6.mono A.grow⟩
    rcases q5 with ⟨z1, z2⟩ | ⟨z1, z2⟩
    · exact .inl ⟨by rw [e5.1]; exact z1, z2⟩
    · exact .inr ⟨by rw [e5.1]; exact z1, by rw [e4.1]; exact z2⟩
def pureD (m : Fm) (ds : List D) : Option D := match m ds g0 with
  | .ok (.v d) _ => some d
  | _ => none
theorem spF_pure {m : Fm} {ds : List D} {vs : List V} {d : D} {Q : VK} (R : REnv c Hf σ H l) (r : RVals c.toCn c.ad Hf ds vs) (e : pureD m ds = some d) (q : PD c σ Q Hf d l) : spF c.toCn m vs H Q fun _ _ _ => False := by
  refine ⟨Hf, c.ad, ds, g0, R.sub, dice0 R.dice, r, ?_⟩
  unfold pureD at e
  split at e
  · rename_i d' g' e2
    cases e
    rw [e2]
    exact fun v H' Hf' A rv => q v H' Hf' (R.pure A) A.grow rv
  · cases e
end
theorem sub_kind {K : PySem.W.Frag} {C : Addr} : ∀ n ∈ [0, 1, 2, 3, 4, 5, 6], PySem.W.subIn K (.type (kindN n)) (.ref C) = some false := by
  intro n hn
  have all : ∀ n ∈ [0, 1, 2, 3, 4, 5, 6], (fastBuiltinMro (kindN n)).map (fun l => l.all fun v => match v with
    | .type _ => true
    | _ => false) = some true := by decide +kernel
  have h := all n hn
  cases e : fastBuiltinMro (kindN n) with
  | none =>
    rw [e] at h
    cases h
  | some l =>
    rw [e] at h
    have h2 : (l.all fun v => match v with
      | .type _ => true
      | _ => false) = true := Option.some.inj h
    show (fastBuiltinMro (kindN n)).map (·.contains (.ref C)) = some false
    rw [e]
    show some (l.contains (.ref C)) = some false
    refine congrArg some (Bool.eq_false_iff.mpr fun z => ?_)
    have z1 := List.contains_iff_mem.mp z
    have z2 := List.all_eq_true.mp h2 _ z1
    exact nomatch z2
section
variable {X : Cx} {pins : List (Addr × Obj)} {σ : L2.St} {H Hf : Hp} {s : Shared} {cn : Cn} {ad : Ad}
theorem looks_kind {M : Model} {d : D} {n : Nat} {v : V} {u : Value} (hK : X.K = cn.K) (I : Inv X pins σ H s) (sub : Same Hf H) (h : kindD d = some n) (r : RVal cn ad Hf d v) (rv : RelV v u) : PySem.W.Looks M s.heap (typeOf u) (.type (kindN n)) := by
  have ref : ∀ {a : Addr} {T : String}, (∃ o, s.heap.get? a = some o ∧ o.cls = .type T) → PySem.W.Looks M s.heap (typeOf (.ref a)) (.type T) := fun {a T} ⟨o, h1, h2⟩ A Q E s' k q => wpAny_typeOf (show s'.TypeIs (.ref a) T from ⟨o, k _ _ h1, h2⟩) q
  cases d <;> simp only [kindD, reduceCtorEq, Option.some.injEq] at h <;> subst h
  · cases (show v = .non from r); cases (show u = .none from rv)
    exact fun A Q E s' k q => wpAny_typeOf (show s'.TypeIs .none "NoneType" from rfl) q
  · cases (show v = .bl _ from r); cases (show u = .bool _ from rv)
    exact fun A Q E s' k q => wpAny_typeOf (T := "bool") rfl q
  · cases (show v = .int _ from r); obtain ⟨t, rfl⟩ := rv
    exact fun A Q E s' k q => wpAny_typeOf (typeIs_int s' _ t) q
  · cases (show v = .str _ from r); obtain ⟨t, rfl⟩ := rv
    exact fun A Q E s' k q => wpAny_typeOf (typeIs_str s' _ t) q
  · obtain ⟨a, vs, rfl, h1, _⟩ := r
    cases (show u = .ref a from rv)
    obtain ⟨its, _, ⟨o, h2, h3, _⟩, _⟩ := I.tuple (show SqT X.K H a vs by rw [hK]; exact sameT sub h1)
    exact ref ⟨o, h2, h3⟩
  · obtain ⟨a, vs, rfl, h1, _⟩ := r
    cases (show u = .ref a from rv)
    obtain ⟨its, _, ⟨o, m, h2, h3, _⟩, _⟩ := I.list (SqL.of (K := X.K) (sub _ _ h1))
    exact ref ⟨o, h2, h3⟩
  · obtain ⟨a, od, vs, rfl, h1, _⟩ := r
    cases (show u = .ref a from rv)
    have z : ObjOk X.prog X.w H s.heap a (.frz od _) := I.hok a _ (sub _ _ h1)
    obtain ⟨_, _, _, _, _, o, _, _, h2, h3, _⟩ := z
    exact ref ⟨o, h2, h3.1⟩
  · obtain ⟨a, od, vs, rfl, h1, _⟩ := r
    cases (show u = .ref a from rv)
    have z : ObjOk X.prog X.w H s.heap a (.frz od _) := I.hok a _ (sub _ _ h1)
    obtain ⟨_, _, _, _, _, o, _, _, h2, h3, _⟩ := z
    exact ref ⟨o, h2, h3.1⟩
end
section
variable {prog : Program} {w : World} {A : Around} {E : Value → Shared → Prop} {s : Shared} {K : PySem.W.Frag} {x C L f : Addr} {h₀ : Heap} {m : Str → Option Value} {ox : Obj} {od : Option Obj} {b tb : Value}
theorem objNe_own {Q : Fin → Shared → Prop} (hu : A.units < cLine) (X : K.In s.heap) (I : PySem.W.InstAt s.heap x ox C od) (he : PySem.W.findIn K (.ref C) "__eq__" = some (some (.ref f))) (hf : PySem.W.isFn K (.ref f) = true)
    (h : wpAny (model prog w) A (call (.ref f) [.ref x, b]) (fun v s' => ∃ k, v = .bool k ∧ Q (.done (.ret (.bool (!k)))) s') E s) : wpAny (model prog w) A (Builtin.«object.__ne__» ⟨[.ref x, b], []⟩) Q E s := by
  unfold Builtin.«object.__ne__»
  repeat (first
    | with_reducible refine wpAny_cRoomFor hu ?_
    | (refine wpAny_bind (m := callSpecialIfBound? (.ref x) (Str.ofString "__eq__") [b]) (PySem.W.ifBound_K X I he hf (wpAny_mono h (fun v s' hv => by
        obtain ⟨k, rfl, q⟩ := hv
        repeat (first | exact q | exact wpAny_pure q | (refine wpAny_bind (m := truthy (.bool _)) (wpAny_truthy_bool ?_)) | wp_step)) fun _ _ e => e)))
    | wp_step)
theorem ne_own {Q : Value → Shared → Prop} (hu : A.units + 1 < cLine) (X : K.In s.heap) (I : PySem.W.InstAt s.heap x ox C od) (hb : PySem.W.Looks (model prog w) s.heap (typeOf b) tb) (hn : PySem.W.notFirst K C tb = true)
    (hs : PySem.W.findIn K (.ref C) "__ne__" = some (some (.builtin "object.__ne__"))) (hm : PySem.W.mroIn K C (.type "object") = some true) (he : PySem.W.findIn K (.ref C) "__eq__" = some (some (.ref f))) (hf : PySem.W.isFn K (.ref f) = true)
    (h : wpAny (model prog w) A.in1 (call (.ref f) [.ref x, b]) (fun v s' => ∃ k, v = .bool k ∧ Q (.bool (!k)) s') E s) : wpAny (model prog w) A (richCompare .NotEq (.ref x) b) Q E s := by
  have one : wpAny (model prog w) A (tryCompare (.ref x) "__ne__" b) (fun r s' => ∃ k, r = some (.bool (!k)) ∧ Q (.bool (!k)) s') E s := by
    unfold tryCompare
    refine wpAny_bind ?_
    simp only [callSpecialIfBound?, bindSpecialIfBound?]
    refine wpAny_holding (wpAny_bind (wpAny_bind (wpAny_bind (I.type.here ((PySem.W.looks_findIn X hs).here ?_)))))
    refine wpAny_bind (wpAny_askSetting (wpAny_ite ?_))
    have fin : wpAny (model prog w) A (call (.builtin "object.__ne__") ([.ref x] ++ [b]) >>= fun v => pure (some v)) (fun o s₁ => wpAny (model prog w) A (match o with
        | some .notImplemented | none => pure none
        | some r => pure (some r)) (fun r s' => ∃ k, r = some (.bool (!k)) ∧ Q (.bool (!k)) s') E s₁) E s := by
      refine wpAny_bind (wpAny_call (codeAny_call_builtin F.cmp_object.ne.plain F.cmpEntry_ne (PySem.W.check_slot F.cmpKind_ne F.cmpSplit_ne (I.type.andThen (PySem.W.looks_mroIn X hm)) (F.cmpArgs_ne _ _)
        (objNe_own (A := A.in1) (by show A.units + 1 < cLine; exact hu) X I he hf (wpAny_mono h (fun v s' hv => ?_) fun _ _ e => e)))))
      obtain ⟨k, rfl, q⟩ := hv
      first
        | exact ⟨k, rfl, wpAny_pure (wpAny_pure ⟨k, rfl, q⟩)⟩
        | exact ⟨k, rfl, _, rfl, wpAny_pure (wpAny_pure ⟨k, rfl, q⟩)⟩
        | exact ⟨_, rfl, wpAny_pure (wpAny_pure ⟨k, rfl, q⟩)⟩
    split
    · exact wpAny_bind (wpAny_of_eq (F.cmp_object.ne.bind _) (wpAny_pure (by exact fin)))
    · exact wpAny_tryCatch (wpAny_bind (wpAny_of_eq (F.cmp_object.ne.bind _) (wpAny_pure (by exact fin))))
  simp only [richCompare, cmpInfo_NotEq, oneThing_ref]
  refine wpAny_holding (wpAny_bind (wpAny_cRoomFor (by omega) ?_))
  refine wpAny_bind (I.type.here (wpAny_bind (hb.here ?_)))
  split
  · rename_i q
    have e : PySem.W.subIn K tb (.ref C) = some false := by
      rcases Bool.or_eq_true_iff.mp hn with e | e
      · rw [beq_iff_eq.mp e] at q
        simp at q
      · exact beq_iff_eq.mp e
    refine wpAny_bind ((PySem.W.looks_subIn X e).here ?_)
    simp only [Bool.false_eq_true, if_false]
    refine wpAny_bind (wpAny_mono one (fun r s' z => ?_) fun _ _ e => e)
    obtain ⟨k, rfl, hq⟩ := z
    exact wpAny_pure hq
  · refine wpAny_bind (wpAny_pure ?_)
    simp only [Bool.false_eq_true, if_false]
    refine wpAny_bind (wpAny_mono one (fun r s' z => ?_) fun _ _ e => e)
    obtain ⟨k, rfl, hq⟩ := z
    exact wpAny_pure hq
end
structure OeqOk (P : Program) (w : World) (mg : Str → Option Value) (base : Heap) (cn : Cn) (k : Nat) (te : Nat → Option Fm) (tk : Nat → Bool) : Prop where
  ok : ∀ n m, te n = some m → PySem.W.mroIn cn.K (cn.cA n) (.type "object") = some true ∧ PySem.W.findIn cn.K (.ref (cn.cA n)) "__ne__" = some (some (.builtin "object.__ne__")) ∧ (∀ j, tk j = true → PySem.W.notFirst cn.K (cn.cA n) (.ref (cn.cA j)) = true) ∧
    ∃ g, PySem.W.findIn cn.K (.ref (cn.cA n)) "__eq__" = some (some (.ref g)) ∧ PySem.W.isFn cn.K (.ref g) = true ∧ FnR P w cn.K mg base (L2.CX P w) k g (spF cn m)
def rOwnEq (cn : Cn) (ad : Ad) (te : Nat → Option Fm) (tk : Nat → Bool) (neg : Bool) : R2 := fun x y H Q => ∃ (Hf : Hp) (n : Nat) (m : Fm) (fs : List D) (e : D), te n = some m ∧ Same Hf H ∧ RVal cn ad Hf (.ins n fs) x ∧ RVal cn ad Hf e y ∧ ((kindD e).isSome = true ∨ ∃ j gs, e = .ins j gs ∧ tk j = true) ∧
  spF cn m [x, y] H (fun v H' => ∃ b, v = .bl b ∧ Q (.bl (b != neg)) H') fun _ _ _ => False
section
variable {X : Cx} {c : Ac} {te : Nat → Option Fm} {tk : Nat → Bool} {k : Nat}
theorem own_setup {pins : List (Addr × Obj)} {σ : L2.St} {H Hf : Hp} {s : Shared} {cn : Cn} {ad : Ad} {n j : Nat} {m : Fm} {fs : List D} {e : D} {x y : V} {v u : Value} (hK : X.K = cn.K) (ok : OeqOk X.prog X.w X.mg X.base cn k te tk) (I : Inv X pins σ H s) (et : te n = some m) (sub : Same Hf H) (rx : RVal cn ad Hf (.ins n fs) x)
    (ry : RVal cn ad Hf e y) (hk : (kindD e).isSome = true ∨ ∃ j gs, e = .ins j gs ∧ tk j = true) (rv : RelV x v) (ru : RelV y u) : ∃ a ox od tb, x = .ref a ∧ v = .ref a ∧ PySem.W.InstAt s.heap a ox (cn.cA n) od ∧ PySem.W.Looks (model X.prog X.w) s.heap (typeOf u) tb ∧ PySem.W.notFirst cn.K (cn.cA n) tb = true := by
  obtain ⟨a, dx, vs, rfl, h1, h2, _⟩ := rx
  cases (show v = Value.ref a from rv)
  obtain ⟨sl, od, _, J, _⟩ := SlX.slt_inst I (.inr ⟨sub _ _ h1, sub _ _ h2⟩ : SlX.Slt H a (cn.cA n) dx (vs.map some))
  refine ⟨a, { PySem.W.instObj (cn.cA n) dx with slots := sl }, some od, ?_⟩
  rcases hk with hk | ⟨j, gs, rfl, hj⟩
  · obtain ⟨q, hq⟩ := Option.isSome_iff_exists.mp hk
    refine ⟨_, rfl, rfl, J, looks_kind hK I sub hq ry ru, ?_⟩
    unfold PySem.W.notFirst
    rw [sub_kind q (kind_lt hq)]
    simp
  · obtain ⟨b, dy, ws, rfl, h3, h4, _⟩ := ry
    cases (show u = Value.ref b from ru)
    obtain ⟨sl', od', _, J', _⟩ := SlX.slt_inst I (.inr ⟨sub _ _ h3, sub _ _ h4⟩ : SlX.Slt H b (cn.cA j) dy (ws.map some))
    exact ⟨_, rfl, rfl, J, J'.type, (ok.ok n m et).2.2.1 j hj⟩
theorem op_eqO {cn : Cn} {ad : Ad} (hK : X.K = cn.K) (ok : OeqOk X.prog X.w X.mg X.base cn k te tk) (hr : Room k X.A) : OpR X (compareOp .Eq) (rOwnEq cn ad te tk false) := by
  intro pins s σ H x y v u Q I rv ru h
  obtain ⟨Hf, n, m, fs, e, et, sub, rx, ry, hk, q⟩ := h
  obtain ⟨a, ox, od, tb, rfl, rfl, J, hb, hn⟩ := own_setup (j := 0) hK ok I et sub rx ry hk rv ru
  obtain ⟨_, _, _, g, h1, h2, F⟩ := ok.ok n m et
  rw [← hK] at F h1 h2 hn
  obtain ⟨mm, hF⟩ := I.fr
  refine PySem.W.cmp_K (op := .Eq) hr.units0 hF I.ok.mod.kin J hb hn h1 h2 (wpAny_mono (wpAny_call (codeAny_mono (F X.A X.stack s H [.ref a, u] [.ref a, y] _ _ hr I.env0 (.cons rfl (.cons ru .nil)) q) (R' := fun r s' => match r with
    | .ok (.ret v) => EP X pins σ (fun v H' => ∃ b, v = .bl b ∧ Q (.bl (b != false)) H') v s'
    | .ok _ => False
    | .error e => X.xe e s') fun r s' z => ?_)) (fun w s' z => ?_) fun _ _ z => z)
  · match r, z with
    | .error e, z => exact (cx_false z).elim
    | .ok (.ret u), z => exact I.after z
    | .ok .next, z => exact z.elim
    | .ok .brk, z => exact z.elim
    | .ok .cont, z => exact z.elim
  · obtain ⟨z', H', I', rz, b, rfl, qb⟩ := z
    cases (show w = .bool b from rz)
    show EP X pins σ Q (.bool b) s'
    exact ⟨.bl b, H', I', rfl, by simpa using qb⟩
theorem op_neO {cn : Cn} {ad : Ad} (hK : X.K = cn.K) (ok : OeqOk X.prog X.w X.mg X.base cn k te tk) (hr : Room (k + 1) X.A) : OpR X (compareOp .NotEq) (rOwnEq cn ad te tk true) := by
  intro pins s σ H x y v u Q I rv ru h
  obtain ⟨Hf, n, m, fs, e, et, sub, rx, ry, hk, q⟩ := h
  obtain ⟨a, ox, od, tb, rfl, rfl, J, hb, hn⟩ := own_setup (j := 0) hK ok I et sub rx ry hk rv ru
  obtain ⟨h3, h4, _, g, h1, h2, F⟩ := ok.ok n m et
  rw [← hK] at F h1 h2 hn h3 h4
  show wpAny _ _ (richCompare .NotEq (.ref a) u) _ _ s
  refine ne_own (by have := hr.units; omega) I.kIn J hb hn h4 h3 h1 h2 (wpAny_mono (wpAny_call (codeAny_mono (F X.A.in1 X.stack s H [.ref a, u] [.ref a, y] _ _ hr.in1 I.env0.in1 (.cons rfl (.cons ru .nil)) q) (R' := fun r s' => match r with
    | .ok (.ret v) => EP X pins σ (fun v H' => ∃ b, v = .bl b ∧ Q (.bl (b != true)) H') v s'
    | .ok _ => False
    | .error e => X.xe e s') fun r s' z => ?_)) (fun w s' z => ?_) fun _ _ z => z)
  · match r, z with
    | .error e, z => exact (cx_false z).elim
    | .ok (.ret u), z => exact I.after z
    | .ok .next, z => exact z.elim
    | .ok .brk, z => exact z.elim
    | .ok .cont, z => exact z.elim
  · obtain ⟨z', H', I', rz, b, rfl, qb⟩ := z
    cases (show w = .bool b from rz)
    refine ⟨b, rfl, .bl (!b), H', I', rfl, ?_⟩
    cases b <;> simpa using qb
def ChI (cn : Cn) (ad : Ad) (te : Nat → Option Fm) (tk : Nat → Bool) (Kp : Hp → Prop) : List V → List V → Hp → (Hp → Prop) → Prop
  | [], [], H, Q => Kp H ∧ Q H
  | x :: xs, y :: ys, H, Q => Kp H ∧ (∃ p q, x = .ref p ∧ y = .ref q) ∧ (x = y → ChI cn ad te tk Kp xs ys H Q) ∧ (x ≠ y → rOwnEq cn ad te tk false x y H fun v H' => v = .bl true ∧ ChI cn ad te tk Kp xs ys H' Q)
  | _, _, _, _ => False
theorem ChI.kp {cn : Cn} {ad : Ad} {te : Nat → Option Fm} {tk : Nat → Bool} {Kp : Hp → Prop} : ∀ {xs ys : List V} {H : Hp} {Q : Hp → Prop}, ChI cn ad te tk Kp xs ys H Q → Kp H
  | [], [], _, _, h => h.1
  | _ :: _, _ :: _, _, _, h => h.1
  | [], _ :: _, _, _, h => h.elim
  | _ :: _, [], _, _, h => h.elim
def rLstI (cn : Cn) (ad : Ad) (te : Nat → Option Fm) (tk : Nat → Bool) (neg : Bool) : R2 := fun x y H Q => ∃ a b xs ys, x = .ref a ∧ y = .ref b ∧ xs.length = ys.length ∧ ChI cn ad te tk (fun H => H a = some (.lst xs) ∧ H b = some (.lst ys)) xs ys H fun H' => Q (.bl (!neg)) H'
section
variable {X : Cx} {c : Ac} {te : Nat → Option Fm} {tk : Nat → Bool} {k : Nat}
structure SubD (X : Cx) (n : Nat) (A : Around) : Prop where
  room : Room n A
  fr : A.frames = X.A.frames
theorem SubD.in1 {n : Nat} {A : Around} (s : SubD X (n + 1) A) : SubD X n A.in1 := ⟨s.room.in1, s.fr⟩
theorem rc_ownI {cn : Cn} {ad : Ad} {A : Around} {pins : List (Addr × Obj)} {σ : L2.St} {H : Hp} {s : Shared} {x y : V} {v u : Value} {P : Hp → Prop} (hK : X.K = cn.K) (ok : OeqOk X.prog X.w X.mg X.base cn k te tk) (sb : SubD X k A) (I : Inv X pins σ H s)
    (rv : RelV x v) (ru : RelV y u) (h : rOwnEq cn ad te tk false x y H fun v H' => v = .bl true ∧ P H') : wpAny (model X.prog X.w) A (richCompare .Eq v u) (fun r s' => r = .bool true ∧ ∃ H', Inv X pins σ H' s' ∧ P H') X.xe s := by
  obtain ⟨Hf, n, m, fs, e, et, sub, rx, ry, hk, q⟩ := h
  obtain ⟨a, ox, od, tb, rfl, rfl, J, hb, hn⟩ := own_setup (j := 0) hK ok I et sub rx ry hk rv ru
  obtain ⟨_, _, _, g, h1, h2, F⟩ := ok.ok n m et
  rw [← hK] at F h1 h2 hn
  obtain ⟨mm, hF⟩ := I.fr
  have e0 : Env0 X.prog X.w X.K X.mg X.base A X.stack s H := by
    have e := I.env0
    exact ⟨by rw [sb.fr]; exact e.frames, e.mod, e.bs, e.bsz, e.funs, e.frf, e.hok, e.bare⟩
  refine PySem.W.cmp_K (op := .Eq) sb.room.units0 hF I.ok.mod.kin J hb hn h1 h2 (wpAny_mono (wpAny_call (codeAny_mono (F A X.stack s H [.ref a, u] [.ref a, y] _ _ sb.room e0 (.cons rfl (.cons ru .nil)) q) (R' := fun r s' => match r with
    | .ok (.ret v) => EP X pins σ (fun v H' => ∃ b, v = .bl b ∧ (V.bl (b != false)) = .bl true ∧ P H') v s'
    | .ok _ => False
    | .error e => X.xe e s') fun r s' z => ?_)) (fun w s' z => ?_) fun _ _ z => z)
  · match r, z with
    | .error e, z => exact (cx_false z).elim
    | .ok (.ret u), z => exact I.after z
    | .ok .next, z => exact z.elim
    | .ok .brk, z => exact z.elim
    | .ok .cont, z => exact z.elim
  · obtain ⟨z', H', I', rz, b, rfl, eb, qb⟩ := z
    cases (show w = .bool b from rz)
    have : b = true := by
      cases b
      · cases eb
      · rfl
    subst this
    exact ⟨rfl, H', I', qb⟩
theorem turnI {cn : Cn} {ad : Ad} {pins : List (Addr × Obj)} {σ : L2.St} {xs ys : List V} {a b : Addr} {Qf : Hp → Prop} {A : Around} (hK : X.K = cn.K) (ok : OeqOk X.prog X.w X.mg X.base cn k te tk) (sb : SubD X (k + 1) A) (hl : xs.length = ys.length) :
    GQ.ListI X.prog X.w A X.xe a b xs.length fun i s' => ∃ H', Inv X pins σ H' s' ∧ ChI cn ad te tk (fun H => H a = some (.lst xs) ∧ H b = some (.lst ys)) (xs.drop i) (ys.drop i) H' Qf := by
  rintro i s' ⟨H', I, ch⟩
  obtain ⟨ha, hb⟩ := ch.kp
  obtain ⟨z, its, k1, r, e⟩ := I.hok a _ ha
  obtain ⟨z2, its2, k2, r2, e2⟩ := I.hok b _ hb
  refine ⟨its.toArray, its2.toArray, k1, k2, e, e2, by rw [List.size_toArray, ← r.length], by rw [List.size_toArray, ← r2.length, ← hl], fun h1 h2 => ?_⟩
  have h1' : i < its.length := by simpa using h1
  have h2' : i < its2.length := by simpa using h2
  have g1 : its[i]? = some its.toArray[i] := by rw [List.getElem?_eq_getElem h1'] <;> simp
  have g2 : its2[i]? = some its2.toArray[i] := by rw [List.getElem?_eq_getElem h2'] <;> simp
  have k1' : i < xs.length := by rw [r.length]; exact h1'
  have k2' : i < ys.length := by rw [r2.length]; exact h2'
  obtain ⟨u, hu, ru⟩ := r.get (List.getElem?_eq_getElem k1')
  obtain ⟨v, hv, rv⟩ := r2.get (List.getElem?_eq_getElem k2')
  rw [g1] at hu
  rw [g2] at hv
  rw [Option.some.inj hu, Option.some.inj hv]
  rw [List.drop_eq_getElem_cons k1', List.drop_eq_getElem_cons k2'] at ch
  obtain ⟨_, ⟨p, q, ep, eq⟩, cs, cd⟩ := ch
  rw [ep] at ru cs cd
  rw [eq] at rv cs cd
  cases (show u = .ref p from ru)
  cases (show v = .ref q from rv)
  by_cases hpq : p = q
  · subst hpq
    exact SeqAt.EqAt.same (A := A.in1) (s := s') (.ref p) X.prog X.w X.xe _ ⟨rfl, H', I, cs rfl⟩
  · refine GQ.eqBool_refG hpq (wpAny_mono (rc_ownI (x := .ref p) (y := .ref q) hK ok sb.in1 I rfl rfl (cd fun z => hpq (by cases z; rfl))) (fun r s2 z => ?_) fun _ _ x => x)
    obtain ⟨rfl, H2, I2, ch2⟩ := z
    exact ⟨true, rfl, rfl, H2, I2, ch2⟩
theorem op_eqLI {cn : Cn} {ad : Ad} (hK : X.K = cn.K) (ok : OeqOk X.prog X.w X.mg X.base cn k te tk) (hr : Room (k + 1) X.A) : OpR X (compareOp .Eq) (rLstI cn ad te tk false) := by
  intro pins s σ H x y v u Q I rv ru h
  obtain ⟨a, b, xs, ys, rfl, rfl, hl, ch⟩ := h
  cases (show v = .ref a from rv)
  cases (show u = .ref b from ru)
  show wpAny _ _ (richCompare .Eq (.ref a) (.ref b)) _ _ s
  refine GQ.rc_listG hr.units0 _ (turnI (pins := pins) (σ := σ) (ad := ad) hK ok (⟨hr, rfl⟩ : SubD X (k + 1) X.A) hl (Qf := fun H' => Q (.bl (!false)) H')) (fun s' z => ?_) ⟨H, I, ch⟩
  obtain ⟨H', I', ch'⟩ := z
  rw [List.drop_length, hl, List.drop_length] at ch'
  exact ⟨.bl true, H', I', rfl, ch'.2⟩
theorem op_neLI {cn : Cn} {ad : Ad} (hK : X.K = cn.K) (ok : OeqOk X.prog X.w X.mg X.base cn k te tk) (hr : Room (k + 1) X.A) : OpR X (compareOp .NotEq) (rLstI cn ad te tk true) := by
  intro pins s σ H x y v u Q I rv ru h
  obtain ⟨a, b, xs, ys, rfl, rfl, hl, ch⟩ := h
  cases (show v = .ref a from rv)
  cases (show u = .ref b from ru)
  show wpAny _ _ (richCompare .NotEq (.ref a) (.ref b)) _ _ s
  refine GQ.rc_list_neG hr.units0 _ (turnI (pins := pins) (σ := σ) (ad := ad) hK ok (⟨hr, rfl⟩ : SubD X (k + 1) X.A) hl (Qf := fun H' => Q (.bl (!true)) H')) (fun s' z => ?_) ⟨H, I, ch⟩
  obtain ⟨H', I', ch'⟩ := z
  rw [List.drop_length, hl, List.drop_length] at ch'
  exact ⟨.bl false, H', I', rfl, ch'.2⟩
end
def blO : Option D → Option Bool
  | some (.bl b) => some b
  | _ => none
def knownD (tk : Nat → Bool) : D → Bool
  | .ins j _ => tk j
  | e => (kindD e).isSome
theorem knownD_of {tk : Nat → Bool} {e : D} (h : knownD tk e = true) : (kindD e).isSome = true ∨ ∃ j gs, e = .ins j gs ∧ tk j = true := by
  cases e <;> first | exact .inr ⟨_, _, rfl, h⟩ | exact .inl h
def eqO (te : Nat → Option Fm) (tk : Nat → Bool) (neg : Bool) (d e : D) : Option D := match d with
  | .ins n fs => (match te n with
    | some m => if knownD tk e = true then (blO (pureD m [.ins n fs, e])).map fun b => .bl (b != neg) else none
    | none => none)
  | _ => none
theorem ok_eqO {neg : Bool} : BinOk c (rOwnEq c.toCn c.ad te tk neg) (eqO te tk neg) := by
  intro Hf H σ l d1 d2 d x y Q R r1 r2 e q
  unfold eqO at e
  cases d1 with
  | ins n fs =>
    dsimp only at e
    cases et : te n with
    | none => rw [et] at e; cases e
    | some m =>
      rw [et] at e
      dsimp only at e
      by_cases hc : knownD tk d2 = true
      · rw [if_pos hc] at e
        obtain ⟨b, e1, e2⟩ := Option.map_eq_some_iff.mp e
        cases e2
        have hp : pureD m [.ins n fs, d2] = some (.bl b) := by
          cases z : pureD m [.ins n fs, d2] with
          | none => rw [z] at e1; cases e1
          | some w =>
            rw [z] at e1
            cases w <;> first | cases e1; rfl | cases e1
        refine ⟨Hf, n, m, fs, d2, et, R.sub, r1, r2, ?_, spF_pure R (.cons r1 (.cons r2 .nil)) hp ?_⟩
        · exact knownD_of hc
        · intro v H' Hf' R' s' rv
          cases (show v = .bl b from rv)
          exact ⟨b, rfl, q _ _ _ R' s' rfl⟩
      · rw [if_neg hc] at e
        cases e
  | _ => cases e
def eqI1 (te : Nat → Option Fm) (tk : Nat → Bool) (x y : D) : Bool := match x, y with
  | .ins n fs, .ins j gs => tk j && (match te n with
    | some m => (match blO (pureD m [.ins n fs, .ins j gs]) with
      | some true => true
      | _ => false)
    | none => false)
  | _, _ => false
def eqIs (te : Nat → Option Fm) (tk : Nat → Bool) : List D → List D → Bool
  | [], [] => true
  | x :: xs, y :: ys => eqI1 te tk x y && eqIs te tk xs ys
  | _, _ => false
def eqLI (te : Nat → Option Fm) (tk : Nat → Bool) (neg : Bool) (d e : D) : Option D := match d, e with
  | .lst ds, .lst es => if eqIs te tk ds es = true then some (.bl (!neg)) else none
  | _, _ => none
theorem eqI1_of {te : Nat → Option Fm} {tk : Nat → Bool} {x y : D} (h : eqI1 te tk x y = true) : ∃ n fs j gs m, x = .ins n fs ∧ y = .ins j gs ∧ tk j = true ∧ te n = some m ∧ pureD m [.ins n fs, .ins j gs] = some (.bl true) := by
  unfold eqI1 at h
  split at h
  · rename_i n fs j gs
    obtain ⟨h1, h2⟩ := Bool.and_eq_true_iff.mp h
    cases et : te n with
    | none => rw [et] at h2; cases h2
    | some m =>
      rw [et] at h2
      dsimp only at h2
      refine ⟨n, fs, j, gs, m, rfl, rfl, h1, et, ?_⟩
      cases z : pureD m [.ins n fs, .ins j gs] with
      | none => rw [z] at h2; cases h2
      | some w =>
        rw [z] at h2
        cases w with
        | bl b =>
          cases b
          · cases h2
          · rfl
        | _ => cases h2
  · cases h
theorem chI_of {a b : Addr} {xs0 ys0 : List V} {σ : L2.St} {l : LSt} {Q : Hp → Prop} {Hf0 : Hp} : ∀ {ds es : List D} {xs ys : List V} {Hf H : Hp}, REnv c Hf σ H l → Same Hf0 Hf → Hf a = some (.lst xs0) → Hf b = some (.lst ys0) → RVals c.toCn c.ad Hf ds xs → RVals c.toCn c.ad Hf es ys → eqIs te tk ds es = true →
    (∀ Hf' H', REnv c Hf' σ H' l → Same Hf0 Hf' → Q H') → ChI c.toCn c.ad te tk (fun H => H a = some (.lst xs0) ∧ H b = some (.lst ys0)) xs ys H Q := by
  intro ds
  induction ds with
  | nil =>
    intro es xs ys Hf H R s0 ha hb r1 r2 h q
    cases es with
    | nil =>
      cases (show xs = [] from r1)
      cases (show ys = [] from r2)
      exact ⟨⟨R.sub _ _ ha, R.sub _ _ hb⟩, q Hf H R s0⟩
    | cons e es => cases h
  | cons d ds ih =>
    intro es xs ys Hf H R s0 ha hb r1 r2 h q
    cases es with
    | nil => cases h
    | cons e es =>
      obtain ⟨x, xs', rfl, rx, rxs⟩ := r1
      obtain ⟨y, ys', rfl, ry, rys⟩ := r2
      obtain ⟨h1, h2⟩ := Bool.and_eq_true_iff.mp h
      obtain ⟨n, fs, j, gs, m, rfl, rfl, tj, et, hp⟩ := eqI1_of h1
      refine ⟨⟨R.sub _ _ ha, R.sub _ _ hb⟩, ?_, fun _ => ih R s0 ha hb rxs rys h2 q, fun _ => ⟨Hf, n, m, fs, .ins j gs, et, R.sub, rx, ry, .inr ⟨j, gs, rfl, tj⟩, spF_pure R (.cons rx (.cons ry .nil)) hp ?_⟩⟩
      · obtain ⟨p, _, _, e1, _⟩ := id rx
        obtain ⟨p', _, _, e2, _⟩ := id ry
        exact ⟨p, p', e1, e2⟩
      · intro v H' Hf' R' s' rv
        cases (show v = .bl true from rv)
        exact ⟨true, rfl, rfl, ih R' (s0.trans s') (s' _ _ ha) (s' _ _ hb) (RVals.mono s' _ _ rxs) (RVals.mono s' _ _ rys) h2 q⟩
theorem ok_eqLI {neg : Bool} : BinOk c (rLstI c.toCn c.ad te tk neg) (eqLI te tk neg) := by
  intro Hf H σ l d1 d2 d x y Q R r1 r2 e q
  unfold eqLI at e
  split at e
  · rename_i ds es
    split at e
    · rename_i h
      cases e
      obtain ⟨a, xs, rfl, ha, rxs⟩ := r1
      obtain ⟨b, ys, rfl, hb, rys⟩ := r2
      refine ⟨a, b, xs, ys, rfl, rfl, ?_, chI_of R (Same.refl _) ha hb rxs rys h fun Hf' H' R' s' => q _ _ _ R' s' rfl⟩
      rw [← rxs.length, ← rys.length]
      have : ∀ (ds es : List D), eqIs te tk ds es = true → ds.length = es.length := by
        intro ds
        induction ds with
        | nil =>
          intro es h
          cases es with
          | nil => rfl
          | cons e es => cases h
        | cons d ds ih =>
          intro es h
          cases es with
          | nil => cases h
          | cons e es =>
            rw [List.length_cons, List.length_cons, ih es (Bool.and_eq_true_iff.mp h).2]
      exact this ds es h
    · cases e
  · cases e
def eqY (te : Nat → Option Fm) (tk : Nat → Bool) (d e : D) : Option D := match d with
  | .ins _ _ => eqO te tk false d e
  | .lst (.ins _ _ :: _) => eqLI te tk false d e
  | _ => eqX d e
def neY (te : Nat → Option Fm) (tk : Nat → Bool) (d e : D) : Option D := match d with
  | .ins _ _ => eqO te tk true d e
  | .lst (.ins _ _ :: _) => eqLI te tk true d e
  | _ => neD d e
end
theorem BinOk.left {c : Ac} {r r' : R2} {g g' h : D → D → Option D} (ok : BinOk c r g) (ok' : BinOk c r' g') (e : ∀ d1 d2 d, h d1 d2 = some d → g d1 d2 = some d ∨ g' d1 d2 = some d) : BinOk c (fun x y H Q => r x y H Q ∨ r' x y H Q) h := fun Hf H σ l d1 d2 d x y Q R r1 r2 z q =>
  (e d1 d2 d z).elim (fun z => .inl (ok Hf H σ l d1 d2 d x y Q R r1 r2 z q)) fun z => .inr (ok' Hf H σ l d1 d2 d x y Q R r1 r2 z q)
section
variable {X : Cx} {c : Ac} {W : WX} {cn : Cn} {k j : Nat} {a b : Expr} {pos : Pos} {fa fb : LSt → Res D} {te : Nat → Option Fm} {tk : Nat → Bool}
def eqOL (te : Nat → Option Fm) (tk : Nat → Bool) (neg : Bool) (d e : D) : Option D := match d with
  | .ins _ _ => eqO te tk neg d e
  | _ => eqLI te tk neg d e
theorem eqY_split {d1 d2 d : D} (h : eqY te tk d1 d2 = some d) : eqX d1 d2 = some d ∨ eqOL te tk false d1 d2 = some d := by
  unfold eqY at h
  split at h
  · exact .inr h
  · exact .inr h
  · exact .inl h
theorem neY_split {d1 d2 d : D} (h : neY te tk d1 d2 = some d) : neD d1 d2 = some d ∨ eqOL te tk true d1 d2 = some d := by
  unfold neY at h
  split at h
  · exact .inr h
  · exact .inr h
  · exact .inl h
theorem ok_eqOL {neg : Bool} : BinOk c (fun x y H Q => rOwnEq c.toCn c.ad te tk neg x y H Q ∨ rLstI c.toCn c.ad te tk neg x y H Q) (eqOL te tk neg) := BinOk.left ok_eqO ok_eqLI fun d1 d2 d h => by
  cases d1 <;> first | exact .inl h | exact .inr h
theorem op_eqY (Z : Ctx X c W cn k) (T : OeqOk X.prog X.w X.mg X.base cn j te tk) (hj : j + 1 ≤ k) : OpR X (compareOp .Eq) (fun x y H Q => rOr (rEqD X.K) (rDq c.toCn c.ad) x y H Q ∨ (rOwnEq c.toCn c.ad te tk false x y H Q ∨ rLstI c.toCn c.ad te tk false x y H Q)) :=
  L2.OpR.or ((op_eqD Z.hr.units).or (op_dq Z.hK Z.hr.units)) (L2.OpR.or (op_eqO Z.hK (by rw [Z.hc]; exact T) (Z.hr.mono (by omega))) (op_eqLI Z.hK (by rw [Z.hc]; exact T) (Z.hr.mono hj)))
theorem op_neY (Z : Ctx X c W cn k) (T : OeqOk X.prog X.w X.mg X.base cn j te tk) (hj : j + 1 ≤ k) : OpR X (compareOp .NotEq) (fun x y H Q => rNeD X.K x y H Q ∨ (rOwnEq c.toCn c.ad te tk true x y H Q ∨ rLstI c.toCn c.ad te tk true x y H Q)) :=
  L2.OpR.or (op_neD Z.hr.units) (L2.OpR.or (op_neO Z.hK (by rw [Z.hc]; exact T) (Z.hr.mono hj)) (op_neLI Z.hK (by rw [Z.hc]; exact T) (Z.hr.mono hj)))
theorem e_eqY (Z : Ctx X c W cn k) (T : OeqOk X.prog X.w X.mg X.base cn j te tk) (hj : j + 1 ≤ k) (ha : DE X c W a fa) (hb : DE X c W b fb) : DE X c W (.Compare a [.Eq] [b] pos) (sBin (eqY te tk) fa fb) :=
  de_cmp (op_eqY Z T (by omega)) (BinOk.left (Z.hK ▸ ok_eqX) ok_eqOL fun _ _ _ => eqY_split) ha hb (nomark _)
theorem t_eqY (Z : Ctx X c W cn k) (T : OeqOk X.prog X.w X.mg X.base cn j te tk) (hj : j + 1 ≤ k) (ha : DE X c W a fa) (hb : DE X c W b fb) : DT X c W (.Compare a [.Eq] [b] pos) (sTst (sBin (eqY te tk) fa fb)) :=
  dt_cmp (op_eqY Z T (by omega)) (BinOk.left (Z.hK ▸ ok_eqX) ok_eqOL fun _ _ _ => eqY_split) ha hb (nomark _)
theorem e_neY (Z : Ctx X c W cn k) (T : OeqOk X.prog X.w X.mg X.base cn j te tk) (hj : j + 1 ≤ k) (ha : DE X c W a fa) (hb : DE X c W b fb) : DE X c W (.Compare a [.NotEq] [b] pos) (sBin (neY te tk) fa fb) :=
  de_cmp (op_neY Z T hj) (BinOk.left (Z.hK ▸ ok_ne) ok_eqOL fun _ _ _ => neY_split) ha hb (nomark _)
theorem t_neY (Z : Ctx X c W cn k) (T : OeqOk X.prog X.w X.mg X.base cn j te tk) (hj : j + 1 ≤ k) (ha : DE X c W a fa) (hb : DE X c W b fb) : DT X c W (.Compare a [.NotEq] [b] pos) (sTst (sBin (neY te tk) fa fb)) :=
  dt_cmp (op_neY Z T hj) (BinOk.left (Z.hK ▸ ok_ne) ok_eqOL fun _ _ _ => neY_split) ha hb (nomark _)
end
end Dx

namespace Dx
open PySem PySem.Spec PyProof.Rows L2

theorem FnR.toK {P : Program} {w : World} {K : PySem.W.Frag} {mg : Str → Option Value} {base : Heap} {CX : CXT} {k n : Nat} {f : Addr} {sp : Sp} (F : FnR P w K mg base CX k f sp) : FnRK P w K mg base CX k f n [] sp := by
  intro A outer s H us ws vs zs Q E hr e0 r1 r2 l1 l2 h
  cases r2 with
  | nil =>
    rw [List.append_nil] at h
    exact F A outer s H us vs Q E hr e0 r1 h
  | cons _ _ => cases l2
def holdsC (l : LSt) (i n : Nat) : Bool := match l.sl[i]? with
  | some (.v (.glo j)) => j == n
  | _ => false
def sCallC (i cl n j : Nat) (m : Fm) (fa fk : LSt → Res (List D)) : LSt → Res D := fun l => if holdsC l i cl = true then sCallK n j m fa fk l else .bad
section
variable {X : Cx} {c : Ac} {W : WX} {e : Expr} {es : List Expr} {kws : List Keyword} {pos p : Pos} {fa fk : LSt → Res (List D)} {m mi : Fm} {k n i cl : Nat} {f : Addr} {x : Str} {ks : List Str}
theorem de_makeC (M : Mk X.K (c.cA cl) f) (gc : c.gA cl = c.cA cl) (F : FnRK X.prog X.w X.K X.mg X.base (L2.CX X.prog X.w) k f (n + 1) ks (spI c.toCn cl mi)) (hr : Room (k + 1) X.A) (tk : Takes X W) (pv : PE X (.Name x p) (tVar i))
    (ha : DA X c W (e :: es) fa) (hkw : DK X c W kws fk) (he : starEach (e :: es) X.env = (false, eval e X.env) :: starEach es X.env := by rfl)
    (hall : (backToKw pos (keywordEach kws X.env)).all (·.1.isSome) = true := by rfl) (hks : (backToKw pos (keywordEach kws X.env)).filterMap (·.1) = ks := by rfl)
    (hpl : ((backTo pos (starEach (e :: es) X.env)).any (·.1) || (backToKw pos (keywordEach kws X.env)).any (·.1.isNone)) = false := by rfl) :
    DE X c W (.Call (.Name x p) (e :: es) kws pos) (sCallC i cl n ks.length (mkC cl mi) fa fk) := by
  refine ⟨⟨fun pins s σ H Q I h => ?_⟩⟩
  have hq : σ[i]? = some (some (.ref (c.cA cl))) ∧ tD c W (sCallK n ks.length (mkC cl mi) fa fk) σ H Q := by
    obtain ⟨Hf, l, R, h⟩ := h
    unfold sCallC at h
    by_cases hh : holdsC l i cl = true
    · rw [if_pos hh] at h
      refine ⟨?_, Hf, l, R, h⟩
      unfold holdsC at hh
      split at hh
      · rename_i j e
        obtain ⟨v, e1, e2⟩ := R.val e
        rw [eq_of_beq hh] at e2
        rw [e1, show v = V.ref (c.gA cl) from e2, gc]
      · cases hh
    · rw [if_neg hh] at h
      exact h.elim
  obtain ⟨h1, h2⟩ := hq
  refine wpAny_Call_Name_kw (thn (pv.run pins s σ H (fun v H' => v = .ref (c.cA cl) ∧ H' = H) I ⟨_, h1, rfl, rfl⟩) fun u s' ⟨v, H', I', rv, ev, eh⟩ => ?_)
  subst ev eh
  cases (show u = Value.ref (c.cA cl) from rv)
  refine PySem.W.callWith_KW (h₀ := X.base) I'.ok.mod.kin M.kp hall (thn (ha.pa.run pos pins s' σ H' _ I' (mkw_run h2)) fun us s1 ⟨vs, H1, I1, r, q⟩ => thn (hkw.pk.run pos pins s1 σ H1 _ I1 q) fun ws s2 ⟨zs, H2, I2, rz, l1, l2, q2⟩ => ⟨I2.kIn, ?_⟩) hpl he
  rw [hks]
  have hq := q2 (s2.heap.objs.size + 1) s2.heap.objs.size (I2.hok.fresh (Nat.le_succ _)) (I2.hok.fresh (Nat.le_refl _)) (Nat.ne_of_lt (Nat.lt_succ_self _))
  have J := Inv.made (C := c.cA cl) I2
  have r1 : Vals (V.ref (s2.heap.objs.size + 1) :: vs) (Value.ref (s2.heap.objs.size + 1) :: us) := .cons rfl r
  refine wpAny_call (make_map (f := f) I2.kIn M.makes M.init (beq_iff_eq.mp M.fn) (codeAny_mono (F _ X.stack _ _ _ ws _ zs _ _ (hr.make (c.cA cl) us (ks.zip ws)) (J.env0.make (c.cA cl) us (ks.zip ws)) r1 rz (congrArg Nat.succ l1) l2 hq) fun r s' hq' => ?_))
  cases r with
  | error e => exact passAt tk σ pins _ _ e s' J hq'
  | ok fl =>
    cases fl with
    | ret u =>
      obtain ⟨v, H', J3, rv, ev, q3⟩ := J.after hq'
      subst ev
      exact ⟨rv, V.ref (s2.heap.objs.size + 1), H', J3, rfl, q3⟩
    | next => exact hq'.elim
    | brk => exact hq'.elim
    | cont => exact hq'.elim
structure MkrC (P : Program) (w : World) (K : PySem.W.Frag) (mg : Str → Option Value) (base : Heap) (cn : Cn) (k n : Nat) (ks : List Str) (cl : Nat) (m : Fm) : Prop where
  gc : cn.gA cl = cn.cA cl
  ex : ∃ f, Mk K (cn.cA cl) f ∧ FnRK P w K mg base (L2.CX P w) k f (n + 1) ks (spI cn cl m)
theorem e_makeC {cn : Cn} {j : Nat} (Z : Ctx X c W cn k) (C : MkrC X.prog X.w X.K X.mg X.base cn j n ks cl m) (hj : j + 1 ≤ k) (pv : PE X (.Name x p) (tVar i)) (ha : DA X c W (e :: es) fa) (hkw : DK X c W kws fk)
    (he : starEach (e :: es) X.env = (false, eval e X.env) :: starEach es X.env := by rfl) (hall : (backToKw pos (keywordEach kws X.env)).all (·.1.isSome) = true := by rfl) (hks : (backToKw pos (keywordEach kws X.env)).filterMap (·.1) = ks := by rfl)
    (hpl : ((backTo pos (starEach (e :: es) X.env)).any (·.1) || (backToKw pos (keywordEach kws X.env)).any (·.1.isNone)) = false := by rfl) : DE X c W (.Call (.Name x p) (e :: es) kws pos) (sCallC i cl n ks.length (mkC cl m) fa fk) := by
  obtain ⟨f, M, F⟩ := C.ex
  have gc := C.gc
  rw [← Z.hc] at F M gc
  exact de_makeC M gc F (Z.hr.mono hj) Z.tk pv ha hkw he hall hks hpl
end
structure StrOk (P : Program) (w : World) (mg : Str → Option Value) (base : Heap) (cn : Cn) (k : Nat) (ts : Nat → Option Fm) : Prop where
  ok : ∀ n m, ts n = some m → ∃ g, PySem.W.findIn cn.K (.ref (cn.cA n)) "__str__" = some (some (.ref g)) ∧ PySem.W.isFn cn.K (.ref g) = true ∧ FnR P w cn.K mg base (L2.CX P w) k g (spF cn m)
def tst0 : Nat → Option Fm := fun _ => none
theorem strOk0 {P : Program} {w : World} {mg : Str → Option Value} {base : Heap} {cn : Cn} : StrOk P w mg base cn 0 tst0 := ⟨fun n m e => by cases e⟩
def rStrOwn (cn : Cn) (ad : Ad) (ts : Nat → Option Fm) : List V → Hp → VK → Prop := fun xs H Q => ∃ (Hf : Hp) (n : Nat) (m : Fm) (fs : List D) (x : V), xs = [x] ∧ ts n = some m ∧ Same Hf H ∧ RVal cn ad Hf (.ins n fs) x ∧ spF cn m [x] H (fun v H' => ∃ z, v = .str z ∧ Q (.str z) H') fun _ _ _ => False
section
variable {X : Cx} {c : Ac} {ts : Nat → Option Fm} {k : Nat}
theorem cr_strOwn {cn : Cn} {ad : Ad} (hK : X.K = cn.K) (ok : StrOk X.prog X.w X.mg X.base cn k ts) (hr : Room (k + 2) X.A) : CallR X (.type "str") (rStrOwn cn ad ts) := by
  intro pins s σ H xs us Q I r h
  obtain ⟨Hf, n, m, fs, x, rfl, et, sub, rx, q⟩ := h
  obtain ⟨u, rfl, ru⟩ := r.one
  obtain ⟨a, dx, vs, rfl, h1, h2, _⟩ := rx
  cases (show u = Value.ref a from ru)
  obtain ⟨sl, od, _, J, _⟩ := SlX.slt_inst I (.inr ⟨sub _ _ h1, sub _ _ h2⟩ : SlX.Slt H a (cn.cA n) dx (vs.map some))
  obtain ⟨g, f1, f2, F⟩ := ok.ok n m et
  rw [← hK] at F f1 f2
  have hr1 : Room (k + 1) X.A.in1 := Room.in1 (k := k + 1) hr
  have hr2 : Room k X.A.in1.in1 := hr1.in1
  refine PySem.W.kso_call hr2.units0 I.kIn J f1 f2 (wpAny_mono (wpAny_call (codeAny_mono (F X.A.in1.in1 X.stack s H [.ref a] [.ref a] _ _ hr2 I.env0.in1.in1 (.cons rfl .nil) q) (R' := fun r s' => match r with
    | .ok (.ret v) => EP X pins σ (fun v H' => ∃ z, v = .str z ∧ Q (.str z) H') v s'
    | .ok _ => False
    | .error e => X.xe e s') fun r s' z => ?_)) (fun w s' z => ?_) fun _ _ z => z)
  · match r, z with
    | .error e, z => exact (cx_false z).elim
    | .ok (.ret u), z => exact I.after z
    | .ok .next, z => exact z.elim
    | .ok .brk, z => exact z.elim
    | .ok .cont, z => exact z.elim
  · obtain ⟨z', H', I', rz, b, rfl, qb⟩ := z
    obtain ⟨t, rfl⟩ := rz
    exact ⟨.str b, H', I', ⟨t, rfl⟩, qb⟩
def strO : Option D → Option Str
  | some (.str x) => some x
  | _ => none
def strD (ts : Nat → Option Fm) : List D → Option D
  | [.int i] => if i.natAbs.log2 < 1920 then some (.str (toString i)) else none
  | [.str x] => some (.str x)
  | [.ins n fs] => (match ts n with
    | some m => (strO (pureD m [.ins n fs])).map .str
    | none => none)
  | _ => none
abbrev rStrY (cn : Cn) (ad : Ad) (ts : Nat → Option Fm) : List V → Hp → VK → Prop := fun xs H Q => ((∃ i : Int, xs = [.int i] ∧ i.natAbs.log2 < 1920 ∧ Q (.str (toString i)) H) ∨ (∃ a, xs = [.str a] ∧ Q (.str a) H)) ∨ rStrOwn cn ad ts xs H Q
theorem ok_strD : BltOk c (rStrY c.toCn c.ad ts) (strD ts) := by
  intro Hf H σ l ds d vs Q R r e q
  match ds, e, r with
  | [.int i], e, r =>
    obtain ⟨x, rfl, h1⟩ := rvals1 r
    cases h1
    have e : (if i.natAbs.log2 < 1920 then some (D.str (toString i)) else none) = some d := e
    split at e
    · rename_i hz
      cases e
      exact .inl (.inl ⟨i, rfl, hz, q.flat R rfl⟩)
    · cases e
  | [.str a], e, r =>
    obtain ⟨x, rfl, h1⟩ := rvals1 r
    cases h1
    cases e
    exact .inl (.inr ⟨a, rfl, q.flat R rfl⟩)
  | [.ins n fs], e, r =>
    obtain ⟨x, rfl, h1⟩ := rvals1 r
    have e : (match ts n with
      | some m => (strO (pureD m [.ins n fs])).map D.str
      | none => none) = some d := e
    cases et : ts n with
    | none => rw [et] at e; cases e
    | some m =>
      rw [et] at e
      obtain ⟨b, e1, e2⟩ := Option.map_eq_some_iff.mp e
      cases e2
      have hp : pureD m [.ins n fs] = some (.str b) := by
        cases z : pureD m [.ins n fs] with
        | none => rw [z] at e1; cases e1
        | some w =>
          rw [z] at e1
          cases w <;> first | cases e1; rfl | cases e1
      refine .inr ⟨Hf, n, m, fs, x, rfl, et, R.sub, h1, spF_pure R (.cons h1 .nil) hp ?_⟩
      intro v H' Hf' R' s' rv
      cases (show v = .str b from rv)
      exact ⟨b, rfl, q _ _ _ R' s' rfl⟩
variable {W : WX} {a : Expr} {p pos : Pos} {fa : LSt → Res D} {cn : Cn} {j : Nat}
theorem e_str (Z : Ctx X c W cn k) (T : StrOk X.prog X.w X.mg X.base cn j ts) (hj : j + 2 ≤ k) (hm : X.mg "str" = none) (ha : DE X c W a fa) (hg : Gl X "str" := by rfl) (he : starEach [a] X.env = (false, eval a X.env) :: starEach [] X.env := by rfl) :
    DE X c W (.Call (.Name "str" p) [a] [] pos) (sBlt (strD ts) (sCons fa sNil)) :=
  de_bltT ((call_str_int.or SkE.call_str_str).or (cr_strOwn (cn := c.toCn) (ad := c.ad) Z.hK (by rw [Z.hc]; exact T) (Z.hr.mono hj))) ok_strD hg hm (by rfl) (da_cons ha da_nil he) (by decide) (by decide) he
end
section
variable {X : Cx} {c : Ac} {W : WX} {tg a b e : Expr} {p pos : Pos} {fs : LSt → Res (List D)} {fe : LSt → Res D}
end
end Dx

namespace Dx
open PySem PySem.Spec PyProof.Rows L2
section
variable {prog : Program} {w : World} {A : Around} {E : Value → Shared → Prop} {s : Shared} {K : PySem.W.Frag} {x f C : Addr} {ox : Obj} {od : Option Obj}
theorem callSpec_K {M : Model} {name : Str} {args : List Value} {Q : Option Value → Shared → Prop} (X : K.In s.heap) (I : PySem.W.InstAt s.heap x ox C od) (hs : PySem.W.findIn K (.ref C) name = some (some (.ref f))) (hf : PySem.W.isFn K (.ref f) = true)
    (h : wpAny M A (call (.ref f) (.ref x :: args)) (fun v => Q (some v)) E s) : wpAny M A (callSpecial? (.ref x) name args) Q E s := by
  simp only [callSpecial?]
  refine wpAny_bind (PySem.W.Looks.here (I.type.andThen (PySem.W.looks_findIn X hs)) ?_)
  exact wpAny_holding (wpAny_bind ((PySem.W.bind_fn X _ (beq_iff_eq.mp hf)).here (wpAny_bind (wpAny_mono h (fun v s' h' => wpAny_pure h') fun _ _ h' => h'))))
theorem len_own {Q : Value → Shared → Prop} (X : K.In s.heap) (I : PySem.W.InstAt s.heap x ox C od) (hs : PySem.W.findIn K (.ref C) "__len__" = some (some (.ref f))) (hf : PySem.W.isFn K (.ref f) = true)
    (h : wpAny (model prog w) A.in1 (call (.ref f) [.ref x]) (fun v s' => ∃ i t, v = .int i t ∧ 0 ≤ i ∧ i < 2 ^ 63 ∧ Q (.int i s'.toks) { s' with toks := s'.toks + 1 }) E s) : wpAny (model prog w) A (call (.builtin "len") [.ref x]) Q E s := by
  refine Calls.call_function_entry kind_len plain_len entry_len (args_len1 _) ?_
  unfold Builtin.«len»
  refine wpAny_bind (m := oneArg "len" _) (wpAny_pure ?_)
  refine wpAny_bind (m := callSpecial? (.ref x) (PySem.Str.ofString "__len__")) (callSpec_K X I hs hf (wpAny_mono h (fun v s' z => ?_) fun _ _ z => z))
  obtain ⟨i, t, rfl, h0, h1, q⟩ := z
  refine wpAny_bind (wpAny_holding (wpAny_pure ?_))
  refine wpAny_bind (wpAny_letGo ?_)
  show wpAny _ _ (if i < 0 then _ else _) _ _ _
  rw [if_neg (by omega)]
  show wpAny _ _ (if i ≥ 2 ^ 63 then _ else _) _ _ _
  rw [if_neg (by omega)]
  exact wpAny_bind (wpAny_mkInt (wpAny_pure ⟨_, rfl, q⟩))
end
structure LnoOk (P : Program) (w : World) (mg : Str → Option Value) (base : Heap) (cn : Cn) (k : Nat) (tl : Nat → Option Fm) : Prop where
  ok : ∀ n m, tl n = some m → ∃ g, PySem.W.findIn cn.K (.ref (cn.cA n)) "__len__" = some (some (.ref g)) ∧ PySem.W.isFn cn.K (.ref g) = true ∧ FnR P w cn.K mg base (L2.CX P w) k g (spF cn m)
def rLenO (cn : Cn) (ad : Ad) (tl : Nat → Option Fm) : List V → Hp → VK → Prop := fun xs H Q => ∃ (x : V) (Hf : Hp) (n : Nat) (m : Fm) (fs : List D), xs = [x] ∧ tl n = some m ∧ Same Hf H ∧ RVal cn ad Hf (.ins n fs) x ∧
  spF cn m [x] H (fun v H' => ∃ i, v = .int i ∧ 0 ≤ i ∧ i < 2 ^ 63 ∧ Q (.int i) H') fun _ _ _ => False
section
variable {X : Cx} {c : Ac} {tl : Nat → Option Fm} {k : Nat}
theorem call_lenO {cn : Cn} {ad : Ad} (hK : X.K = cn.K) (ok : LnoOk X.prog X.w X.mg X.base cn k tl) (hr : Room (k + 1) X.A) : CallR X (.builtin "len") (rLenO cn ad tl) := by
  intro pins s σ H xs us Q I r h
  obtain ⟨x, Hf, n, m, fs, rfl, et, sub, rx, q⟩ := h
  obtain ⟨u, rfl, ru⟩ := vals1 r
  obtain ⟨a, dx, vs, rfl, h1, h2, _⟩ := rx
  cases (show u = Value.ref a from ru)
  obtain ⟨sl, od, _, J, _⟩ := SlX.slt_inst I (.inr ⟨sub _ _ h1, sub _ _ h2⟩ : SlX.Slt H a (cn.cA n) dx (vs.map some))
  obtain ⟨g, h3, h4, F⟩ := ok.ok n m et
  rw [← hK] at F h3 h4
  refine len_own I.kIn J h3 h4 (wpAny_mono (wpAny_call (codeAny_mono (F X.A.in1 X.stack s H [.ref a] [.ref a] _ _ hr.in1 I.env0.in1 (.cons rfl .nil) q) (R' := fun r s' => match r with
    | .ok (.ret v) => EP X pins σ (fun v H' => ∃ i, v = .int i ∧ 0 ≤ i ∧ i < 2 ^ 63 ∧ Q (.int i) H') v s'
    | .ok _ => False
    | .error e => X.xe e s') fun r s' z => ?_)) (fun w s' z => ?_) fun _ _ z => z)
  · match r, z with
    | .error e, z => exact (cx_false z).elim
    | .ok (.ret u), z => exact I.after z
    | .ok .next, z => exact z.elim
    | .ok .brk, z => exact z.elim
    | .ok .cont, z => exact z.elim
  · obtain ⟨z', H', I', rz, i, rfl, i0, i1, qb⟩ := z
    obtain ⟨t, rfl⟩ := rz
    exact ⟨i, t, rfl, i0, i1, .int i, H', I'.tok _, ⟨_, rfl⟩, qb⟩
def lenT (tl : Nat → Option Fm) (ds : List D) : Option D := match ds with
  | [.ins n fs] => (match tl n with
    | some m => (match pureD m [.ins n fs] with
      | some (.int i) => if 0 ≤ i ∧ i < 2 ^ 63 then some (.int i) else none
      | _ => none)
    | none => none)
  | _ => none
theorem ok_lenO : BltOk c (rLenO c.toCn c.ad tl) (lenT tl) := by
  intro Hf H σ l ds d vs Q R r e q
  unfold lenT at e
  split at e
  · rename_i n fs
    obtain ⟨v, rfl, r1⟩ := rvals1 r
    cases et : tl n with
    | none => rw [et] at e; cases e
    | some m =>
      rw [et] at e
      dsimp only at e
      split at e
      · rename_i i hp
        split at e
        · rename_i hi
          cases e
          exact ⟨v, Hf, n, m, fs, rfl, et, R.sub, r1, spF_pure R (.cons r1 .nil) hp fun w H' Hf' R' s' rw' => ⟨i, rw', hi.1, hi.2, q _ _ _ R' s' rfl⟩⟩
        · cases e
      · cases e
  · cases e
def lenY (tl : Nat → Option Fm) (ds : List D) : Option D := match ds with
  | [.ins n fs] => lenT tl [.ins n fs]
  | ds => lenD ds
theorem ok_lenY (hK : X.K = c.K) : BltOk c (fun xs H Q => rLen2 X.K xs H Q ∨ rLenO c.toCn c.ad tl xs H Q) (lenY tl) := by
  intro Hf H σ l ds d vs Q R r e q
  by_cases h : ∃ n fs, ds = [.ins n fs]
  · obtain ⟨n, fs, rfl⟩ := h
    exact .inr (ok_lenO Hf H σ l _ d vs Q R r e q)
  · have e1 : lenY tl ds = lenD ds := by
      unfold lenY
      split
      · exact absurd ⟨_, _, rfl⟩ h
      · rfl
    rw [e1] at e
    exact .inl (ok_len hK Hf H σ l ds d vs Q R r e q)
variable {W : WX} {cn : Cn} {j : Nat} {a : Expr} {p pos : Pos} {fa : LSt → Res D}
theorem e_lenY (Z : Ctx X c W cn k) (T : LnoOk X.prog X.w X.mg X.base cn j tl) (hj : j + 1 ≤ k) (hm : X.mg "len" = none) (ha : DE X c W a fa) (hg : Gl X "len" := by rfl) (he : starEach [a] X.env = (false, eval a X.env) :: starEach [] X.env := by rfl) :
    DE X c W (.Call (.Name "len" p) [a] [] pos) (sBlt (lenY tl) (sCons fa sNil)) :=
  de_blt (cr_len2.or (call_lenO (cn := c.toCn) (ad := c.ad) Z.hK (by rw [Z.hc]; exact T) (Z.hr.mono hj))) (ok_lenY Z.hK) hg hm (by rfl) (da_cons ha da_nil he) (by decide) (by decide) he
end
end Dx

namespace Dx
open PySem PySem.Spec PyProof.Rows L2

def ItP (l it : Addr) (i : Nat) : HO := .ext fun h => h.IsTupleIter it l i
def ItU (it : Addr) : HO := .ext fun h => ∃ o, h.get? it = some o
theorem itP_ok {P : Program} {w : World} {H : Hp} {h : Heap} {l it : Addr} {i : Nat} (e : h.IsTupleIter it l i) : ObjOk P w H h it (ItP l it i) := by
  obtain ⟨o, h1, h2, h3⟩ := e
  exact ⟨⟨o, h1, h2, h3⟩, ⟨_, h1⟩, fun _ _ ⟨o', q1, q2, q3⟩ k => ⟨o', k _ q1, q2, q3⟩⟩
theorem itU_ok {P : Program} {w : World} {H : Hp} {h : Heap} {it : Addr} (e : ∃ o, h.get? it = some o) : ObjOk P w H h it (ItU it) := ⟨e, e, fun _ _ ⟨o', q1⟩ k => ⟨o', k _ q1⟩⟩
section
variable {prog : Program} {w : World} {A : Around} {E : Value → Shared → Prop} {s : Shared}
theorem call_iterT0 {l : Addr} {items : Array Value} {Q : Value → Shared → Prop} (hl : s.heap.IsTuple l items) (h : Q (.ref s.heap.objs.size) { s with heap := s.heap.push { cls := .type "tuple_iterator", data := .fields #[.ref l, .int 0 0] } }) :
    wpAny (model prog w) A (call (.builtin "iter") [.ref l]) Q E s := by
  refine Calls.call_function_entry (by decide +kernel) (by decide +kernel) PySem.W.kdk_entry_iter (PySem.W.kdk_args_iter _) ?_
  unfold Builtin.«iter»
  refine wpAny_bind (m := someArgs "iter" 1 2 _) (wpAny_of_eq (a := [Value.ref l]) (by first | rfl | kernel_rfl!) ?_)
  show wpAny _ _ (pyIter (.ref l) >>= _) _ _ _
  refine wpAny_bind (wpAny_pyIter_tuple hl ?_)
  exact wpAny_pure ⟨_, rfl, h⟩
theorem next_endT {it t : Addr} {i : Nat} {items : Array Value} {Q : Option Value → Shared → Prop} (hh : A.handled = none)
    (hit : s.heap.IsTupleIter it t i) (ht : s.heap.IsTuple t items) (hx : items[i]? = none)
    (hQ : ∀ h', (∃ u, h'.get? it = some u) → Heap.ExtBut it s.heap h' → Q none { s with heap := h' }) : wpAny (model prog w) A (pyNext (.ref it)) Q E s := by
  obtain ⟨o, ho, hc, hd⟩ := id hit
  obtain ⟨ol, hol, _, nl, hdl⟩ := ht
  unfold pyNext
  refine wpAny_bind (wpAny_attempt (wpAny_callSpecial?_slot (name := Str.ofString "__next__") hit.typeIs F.slot_tuple_iterator_next
    (wpAny_call_entry F.slot_tuple_iterator_next hit.typeIs F.entry_tuple_iterator_next ?_ (F.args_tuple_iterator_next_1 _))))
  show wpAny _ _ (field (.ref it) 0 >>= _) _ _ s
  refine wpAny_bind (wpAny_field ho hd (x := .ref t) rfl ?_)
  show wpAny _ _ (if (Value.ref t == Value.none) = true then _ else _) _ _ s
  rw [if_neg (show ¬ ((Value.ref t == Value.none) = true) from Bool.false_ne_true)]
  show wpAny _ _ (field (.ref it) 1 >>= _) _ _ s
  refine wpAny_bind (wpAny_field ho hd (x := .int i 0) rfl ?_)
  show wpAny _ _ (seqItems? (.ref t) >>= _) _ _ s
  refine wpAny_bind (wpAny_seqItems hol hdl ?_)
  simp only [Int.toNat_natCast, hx]
  refine wpAny_bind (wpAny_rule (wpAny_bind (wpAny_setField ho hd (by simp) ?_)))
  show wpAny _ _ (newExc (.type "StopIteration") [] >>= _) _ _ _
  refine wpAny_bind ?_
  simp only [newExc, newTuple]
  refine wpAny_bind (wpAny_newObj_type ?_ (by size_fits))
  refine wpAny_bind (m := firstArgMember _ _) (wpAny_of_eq (a := Value.none) (by first | rfl | (simp only [firstArgMember]; rfl)) ?_)
  refine wpAny_newObj_type ?_ (by size_fits)
  simp only [raiseNew]
  refine wpAny_bind (wpAny_handled ?_)
  first | rw [show A.in1.handled = none from hh] | rw [hh]
  refine wpAny_bind (wpAny_pure (wpAny_throw ?_))
  refine wpAny_bind (wpAny_isInstance (T := "StopIteration") (b := true) ⟨_, Heap.get?_push_size _ rfl, rfl⟩ isSubtype_stop ?_)
  exact wpAny_pure (hQ _ ⟨_, Heap.get?_push_of_some _ (Heap.get?_push_of_some _ (Heap.get?_update_self _ ho (Obj.isFreed_of_fields (Obj.data_mapFields hd _))))⟩ (((Heap.SameBut.update ..).extBut.push _).push _))
end
section
variable {X : Cx} {pins : List (Addr × Obj)} {σ : L2.St} {H : Hp} {s : Shared} {l it : Addr}
def rIterT : List V → Hp → VK → Prop := fun xs H Q => ∃ (l : Addr) (zs : List V), xs = [.ref l] ∧ H l = some (.tup zs) ∧ ∀ it, H it = none → Q (.ref it) (upd H it (ItP l it 0))
theorem call_iterT : CallR X (.builtin "iter") rIterT := by
  intro pins s σ H xs us Q I r h
  obtain ⟨l, zs, rfl, hq, q⟩ := h
  obtain rfl := Vals.ref1 r
  obtain ⟨its, rv, ht, hz⟩ := I.tuple (show SqT X.K H l zs from tupS hq)
  refine call_iterT0 (items := its.toArray) (by
    obtain ⟨o, h1, h2, n, h3⟩ := ht
    exact ⟨o, h1, h2, n, h3⟩) ?_
  exact ⟨.ref s.heap.objs.size, _, I.laid (t' := s.toks) (fun b u e => Heap.get?_push_of_some _ e) (Nat.le_refl _) (itP_ok ⟨_, Heap.get?_push_size _ rfl, rfl, rfl⟩), rfl, q _ (I.hok.fresh (Nat.le_refl _))⟩

theorem ext_loopT {A1 : Around} {q : Addr} {xs : List V} {Rs : Result → Shared → Prop} (hh : A1.in1.handled = none) (hne : q ≠ it) : ∀ (m i : Nat) (H : Hp) (s : Shared), Inv X pins σ H s → H q = some (.lst (xs.take i)) → H it = some (ItP l it i) → H l = some (.tup xs) →
    i + m = xs.length → (∀ H' s', Inv X pins σ H' s' → (∀ b, b ≠ q → b ≠ it → H' b = H b) → H' q = some (.lst xs) → H' it = some (ItU it) → Rs (.ok (.ret .none)) s') →
    codeAny (model X.prog X.w) A1 (.builtin "list.extend.loop" ⟨[.ref q, .ref it, .none], []⟩) Rs s := by
  intro m
  induction m with
  | zero =>
    intro i H s I hq hi hl hm hR
    refine codeAny_builtin PySem.F.entry_extend_loop ?_
    rw [Around.under_plainId PySem.F.plain_extend_loop _]
    show wpAny _ A1.in1 (pyNext (.ref it) >>= _) _ _ s
    obtain ⟨its, rv, ht, hz⟩ := I.tuple (show SqT X.K H l xs from tupS hl)
    have hit : s.heap.IsTupleIter it l i := (I.hok it _ hi).1
    have hn : its.toArray[i]? = none := by
      have := rv.length
      simp
      omega
    refine wpAny_bind (next_endT hh hit (by
      obtain ⟨o, h1, h2, n, h3⟩ := ht
      exact ⟨o, h1, h2, n, h3⟩) hn fun h' e' sb => ?_)
    have mu : Mut (H it) := by rw [hi]; exact True.intro
    have I2 : Inv X pins σ (upd H it (ItU it)) { s with heap := h', toks := s.toks } := I.write (x := it) (e := it) (t' := s.toks) mu (.inl rfl) (fun b o nb z => sb b o nb z) e' (itU_ok e')
    refine wpAny_pure (hR _ _ I2 (fun b n1 n2 => upd_ne n2) ?_ upd_same)
    rw [upd_ne hne, hq, List.take_of_length_le (by omega)]
  | succ m ih =>
    intro i H s I hq hi hl hm hR
    refine codeAny_builtin PySem.F.entry_extend_loop ?_
    rw [Around.under_plainId PySem.F.plain_extend_loop _]
    show wpAny _ A1.in1 (pyNext (.ref it) >>= _) _ _ s
    obtain ⟨its, rv, ht, hz⟩ := I.tuple (show SqT X.K H l xs from tupS hl)
    have hit : s.heap.IsTupleIter it l i := (I.hok it _ hi).1
    have hlt : i < xs.length := by omega
    obtain ⟨u, hu, ru⟩ := rv.get (List.getElem?_eq_getElem hlt)
    have hn : its.toArray[i]? = some u := by rw [List.getElem?_toArray]; exact hu
    refine wpAny_bind (wpAny_pyNext_tuple_item hit (by
      obtain ⟨o, h1, h2, n, h3⟩ := ht
      exact ⟨o, h1, h2, n, h3⟩) hn fun h' e' sb => ?_)
    have mu : Mut (H it) := by rw [hi]; exact True.intro
    have e2 : ∃ u, h'.get? it = some u := by
      obtain ⟨o, q1, _⟩ := id e'
      exact ⟨o, q1⟩
    have I2 : Inv X pins σ (upd H it (ItP l it (i + 1))) { s with heap := h', toks := s.toks } := I.write (x := it) (e := it) (t' := s.toks) mu (.inl rfl) (fun b o nb z => (sb.2 b nb).trans z) e2 (itP_ok e')
    have hq2 : upd H it (ItP l it (i + 1)) q = some (.lst (xs.take i)) := by rw [upd_ne hne]; exact hq
    show wpAny _ A1.in1 (updateSeq q (·.push u) >>= _) _ _ _
    obtain ⟨z, its2, k, r2, hl2, e⟩ := I2.lstM hq2
    have hlen : (xs.take i).length < sizeLine := by rw [List.length_take]; omega
    refine wpAny_bind (wpAny_updateSeq e rfl (wpAny_pure ⟨plainId_quiet PySem.F.plain_extend_loop _, ?_⟩) (by rw [List.size_toArray]; omega) (by show (its2.toArray.push u).size ≤ sizeLine + 1; rw [Array.size_push, List.size_toArray]; omega))
    have I3 := I2.lset (f := (·.push u)) (its' := its2 ++ [u]) (ys := xs.take i ++ [xs[i]]) (t' := s.toks) hq2 e (by simp) (r2.append (.cons ru .nil)) (by rw [List.length_append, List.length_singleton]; omega)
    have et : xs.take i ++ [xs[i]] = xs.take (i + 1) := by rw [List.take_succ_eq_append_getElem hlt]
    rw [et] at I3
    have hlq : l ≠ q := ne_of hl hq (fun z => nomatch z)
    have hli : l ≠ it := ne_of hl hi (fun z => by unfold ItP at z; cases z)
    refine ih (i + 1) _ _ I3 upd_same (by rw [upd_ne (Ne.symm hne), upd_same]) (by rw [upd_ne hlq, upd_ne hli]; exact hl) (by omega) fun H' s' I' k1 k2 k3 => hR H' s' I' (fun b n1 n2 => by rw [k1 b n1 n2, upd_ne n1, upd_ne n2]) k2 k3
end

def spIter (C : Addr) (i : Nat) : Sp := fun vs H Q _ => ∃ a dx us l ys, vs = [.ref a] ∧ SlX.Slt H a C dx us ∧ us[i]? = some (some (.ref l)) ∧ H l = some (.tup ys) ∧ ∀ it, H it = none → Q (.ref it) (upd H it (ItP l it 0))
def tIter (K : PySem.W.Frag) (f : Str) : TS := tRet (tCB rIterT (tCons (SlX.tSl K (tVar 0) f) tNil))
theorem pss_iter {X : Cx} {f : Str} {p1 p2 p3 p4 p5 : Pos} (hN : X.N[0]? = some ("self" : Str)) (hv : Vis X.env.scope ("self" : Str)) (hg : Gl X "iter") (hm : X.mg "iter" = none) (hb : attributeBase (.Name "self" p2) f X.env (eval (.Name "self" p2) X.env) = eval (.Name "self" p2) X.env)
    (hs : starEach [.Attribute (.Name "self" p2) f p3] X.env = (false, eval (.Attribute (.Name "self" p2) f p3) X.env) :: starEach [] X.env) : PSs X [.Return (some (.Call (.Name "iter" p1) [.Attribute (.Name "self" p2) f p3] [] p4)) p5] (tIter X.K f) :=
  pss_one (ps_ret (pe_callB call_iterT hg hm (by rfl) (pa_cons (SlX.pe_sl (pe_var hN hv (by decide) (by decide)) hb) pa_nil hs) (by decide) (by decide) hs))
section
variable {P : Program} {w : World} {K : PySem.W.Frag} {mg : Str → Option Value} {base : Heap} {x qual : Str} {params : Arguments} {body : List Stmt} {scope : Scope} {f : Addr} {fd : FuncData} {k : Nat}
theorem iter0 {C p : Addr} {i : Nat} {fld : Str} (F : FunD K x qual params body scope [] [] f fd) (S : FnScope ["self"] ["self"] scope) (hb : L2.Binds K fd ["self"] []) (sc : SlX.SCls K C) (sl : SlX.Slot1 K C fld p i)
    (hbody : ∀ (cdv : Value) (A : Around) (outer : List Env) (s : Shared) (H : Hp) (E : XK), PSs (cxOf (L2.CX P w) P w K mg base ["self"] qual scope f cdv A outer s H E) body (tIter K fld)) : FnR P w K mg base (L2.CX P w) (k + 1) f (spIter C i) := by
  have ok : FnOk P w K mg base (L2.CX P w) (k + 1) f fd ["self"] (fun vs H Q E => vs.length = 1 ∧ spIter C i vs H Q E) := by
    obtain ⟨oc, od, dV, kV, doc, pm, an, cdv, ct, osl, rfl, lk, hcd, _, _⟩ := F.ex
    refine fn_of lk hcd S (fun vs H Q E h => h.1) fun A outer s H vs Q E hr h => ?_
    obtain ⟨_, a, dx, us, l, ys, rfl, h1, h2, h3, q⟩ := h
    exact ⟨_, hbody cdv A outer s H E, .ref a, rfl, a, C, dx, p, us, i, .ref l, rfl, h1, sc, sl, h2, l, ys, rfl, h3, q⟩
  exact (ok.raw hb .nil).imp fun vs H Q E h => by
    obtain ⟨a, dx, us, l, ys, rfl, h'⟩ := id h
    exact ⟨rfl, h⟩
theorem it0 {cn : Cn} {n i : Nat} {tb : Nat → Option Nat} {fld : Str} (hK : K = cn.K) (F : FunD K x qual params body scope [] [] f fd) (S : FnScope ["self"] ["self"] scope) (hb : L2.Binds K fd ["self"] []) (at_ : AttrOk cn fld tb) (ht : tb n = some i)
    (hbody : ∀ (cdv : Value) (A : Around) (outer : List Env) (s : Shared) (H : Hp) (E : XK), PSs (cxOf (L2.CX P w) P w K mg base ["self"] qual scope f cdv A outer s H E) body (tIter K fld)) : FnR P w K mg base (L2.CX P w) (k + 1) f (spIter (cn.cA n) i) := by
  obtain ⟨sc, p, sl⟩ := at_ n i ht
  rw [← hK] at sc sl
  exact iter0 F S hb sc sl hbody
end

section
variable {prog : Program} {w : World} {A : Around} {E : Value → Shared → Prop} {s : Shared} {K : PySem.W.Frag} {x f C : Addr} {ox : Obj} {od : Option Obj}
theorem hint_len {Q : Bool → Shared → Prop} (X : K.In s.heap) (I : PySem.W.InstAt s.heap x ox C od) (hs : PySem.W.findIn K (.ref C) "__len__" = some (some (.ref f)))
    (h : wpAny (model prog w) A (call (.builtin "len") [.ref x]) (fun v s' => ∃ i t, v = .int i t ∧ 0 ≤ i ∧ i ≤ sizeLine ∧ ∀ b, Q b s') (fun _ _ => False) s) : wpAny (model prog w) A (Builtin.List.listLengthHint (.ref x)) Q E s := by
  unfold Builtin.List.listLengthHint
  refine wpAny_bind (wpAny_bind (I.type.here ((PySem.W.looks_findIn X hs).here ?_)))
  refine PySem.W.KFB.if_not rfl ?_
  show wpAny _ _ (rule "list.length-hint.len" >>= fun _ => _) _ _ _
  refine wpAny_bind (wpAny_rule ?_)
  refine wpAny_bind (wpAny_attempt (wpAny_mono h (fun v s' z => ?_) fun _ _ z => z.elim))
  obtain ⟨i, t, rfl, h0, h1, q⟩ := z
  show wpAny _ _ (if Builtin.List.listTooLong i.toNat = true then _ else _) _ _ _
  rw [if_neg (by unfold Builtin.List.listTooLong; simp; omega)]
  exact wpAny_pure (q _)
end
structure LioOk (P : Program) (w : World) (mg : Str → Option Value) (base : Heap) (cn : Cn) (k : Nat) (ti : Nat → Option Nat) : Prop where
  ok : ∀ n i, ti n = some i → ∃ g, PySem.W.findIn cn.K (.ref (cn.cA n)) "__iter__" = some (some (.ref g)) ∧ PySem.W.isFn cn.K (.ref g) = true ∧ FnR P w cn.K mg base (L2.CX P w) k g (spIter (cn.cA n) i)
def rListO (cn : Cn) (ad : Ad) (ti : Nat → Option Nat) (tl : Nat → Option Fm) : List V → Hp → VK → Prop := fun xs H Q => ∃ (x : V) (Hf : Hp) (n i : Nat) (m : Fm) (fs ds : List D), xs = [x] ∧ ti n = some i ∧ tl n = some m ∧ Same Hf H ∧ RVal cn ad Hf (.ins n fs) x ∧ fs[i]? = some (.tup ds) ∧
  ∀ q it l ys, H q = none → q ≠ it → upd H q (.lst []) it = none → Hf l = some (.tup ys) → RVals cn ad Hf ds ys →
    spF cn m [x] (upd (upd H q (.lst [])) it (ItP l it 0)) (fun v H' => ∃ k, v = .int k ∧ 0 ≤ k ∧ k ≤ sizeLine ∧ H' q = some (.lst []) ∧ H' it = some (ItP l it 0) ∧ H' l = some (.tup ys) ∧
      ∀ H'', (∀ b, b ≠ q → b ≠ it → H'' b = H' b) → H'' q = some (.lst ys) → H'' it = some (ItU it) → Q (.ref q) H'') fun _ _ _ => False
section
variable {X : Cx} {c : Ac} {ti : Nat → Option Nat} {tl : Nat → Option Fm} {k : Nat}
theorem list_extO {cn : Cn} {ad : Ad} {pins : List (Addr × Obj)} {σ : L2.St} {H Hf : Hp} {s : Shared} {Q : VK} {A1 : Around} {a q : Addr} {n i : Nat} {m : Fm} {fs ds : List D} (hK : X.K = cn.K) (ok : LnoOk X.prog X.w X.mg X.base cn k tl) (ok2 : LioOk X.prog X.w X.mg X.base cn k ti) (sb : SubD X (k + 1) A1.in1)
    (I : Inv X pins σ (upd H q (.lst [])) s) (nq : H q = none) (ei : ti n = some i) (el : tl n = some m) (sub : Same Hf H) (rx : RVal cn ad Hf (.ins n fs) (.ref a)) (ed : fs[i]? = some (.tup ds))
    (hq : ∀ it l ys, q ≠ it → upd H q (.lst []) it = none → Hf l = some (.tup ys) → RVals cn ad Hf ds ys →
      spF cn m [.ref a] (upd (upd H q (.lst [])) it (ItP l it 0)) (fun v H' => ∃ k, v = .int k ∧ 0 ≤ k ∧ k ≤ sizeLine ∧ H' q = some (.lst []) ∧ H' it = some (ItP l it 0) ∧ H' l = some (.tup ys) ∧
        ∀ H'', (∀ b, b ≠ q → b ≠ it → H'' b = H' b) → H'' q = some (.lst ys) → H'' it = some (ItU it) → Q (.ref q) H'') fun _ _ _ => False) :
    wpAny (model X.prog X.w) A1.in1 (Builtin.List.listExtendWith (.ref q) (.ref a) .none)
      (fun fin s' => match fin with | .done f => wants (fun r s₂ => r = .none ∧ EP X pins σ Q (.ref q) s₂) X.xe (.ok f) s' | .again c' => c'.quiet = true ∧ codeAny (model X.prog X.w) A1 c' (wants (fun r s₂ => r = .none ∧ EP X pins σ Q (.ref q) s₂) X.xe) s') (fun e s' => wants (fun r s₂ => r = .none ∧ EP X pins σ Q (.ref q) s₂) X.xe (.error e) s') s := by
  obtain ⟨b, dx, vs, e0, ha, hdx, rvs⟩ := rx
  cases e0
  have hs : SlX.Slt (upd H q (.lst [])) a (cn.cA n) dx (vs.map some) := .inr ⟨by rw [upd_ne (ne_of_none (sub _ _ ha) nq)]; exact sub _ _ ha, by rw [upd_ne (ne_of_none (sub _ _ hdx) nq)]; exact sub _ _ hdx⟩
  have hne : q ≠ a := fun z => by
    rw [z, sub _ _ ha] at nq
    cases nq
  obtain ⟨sl, od, _, J, _⟩ := SlX.slt_inst I hs
  obtain ⟨m0, hF⟩ := I.fr
  obtain ⟨g, g1, g2, FI⟩ := ok2.ok n i ei
  obtain ⟨gl, gl1, gl2, FL⟩ := ok.ok n m el
  rw [← hK] at FI g1 g2 FL gl1 gl2
  obtain ⟨y, ey, ry⟩ := rvs.get ed
  obtain ⟨l, ys, rfl, hl, rys⟩ := ry
  unfold Builtin.List.listExtendWith
  refine wpAny_bind (J.type.here ?_)
  have h1 : Builtin.List.listSameRef (.ref q) (.ref a) = false := by simp [Builtin.List.listSameRef, hne]
  have h2 : (Value.ref (cn.cA n) == Value.type "list") = false := rfl
  have h3 : (Value.ref (cn.cA n) == Value.type "tuple") = false := rfl
  simp only [h1, h2, h3, Bool.or_false, Bool.false_eq_true, if_false]
  refine wpAny_bind (PySem.W.owit_iter hF I.ok.mod.kin J g1 g2 ?_)
  have e0 : ∀ {H : Hp} {s : Shared} {A : Around}, A.frames = X.A.frames → Inv X pins σ H s → Env0 X.prog X.w X.K X.mg X.base A X.stack s H := fun {H s A} ef I => by
    have e := I.env0
    exact ⟨by rw [ef]; exact e.frames, e.mod, e.bs, e.bsz, e.funs, e.frf, e.hok, e.bare⟩
  have hlq : l ≠ q := ne_of_none (sub _ _ hl) nq
  have hsp : spIter (cn.cA n) i [.ref a] (upd H q (.lst [])) (fun v H' => ∃ it, v = .ref it ∧ upd H q (.lst []) it = none ∧ H' = upd (upd H q (.lst [])) it (ItP l it 0)) fun _ _ _ => False :=
    ⟨a, dx, vs.map some, l, ys, rfl, hs, by rw [List.getElem?_map, ey]; rfl, by rw [upd_ne hlq]; exact sub _ _ hl, fun it nit => ⟨it, rfl, nit, rfl⟩⟩
  refine wpAny_call (codeAny_mono (FI A1.in1 X.stack s _ [.ref a] [.ref a] _ _ (sb.room.mono (Nat.le_succ _)) (e0 sb.fr I) (.cons rfl .nil) hsp) fun r s' z => ?_)
  match r, z with
  | .error e, z => exact (cx_false z).elim
  | .ok .next, z => exact z.elim
  | .ok .brk, z => exact z.elim
  | .ok .cont, z => exact z.elim
  | .ok (.ret u), z =>
    obtain ⟨v, H', I1, rv, it, ev, nit, eH⟩ := I.after z
    subst ev
    subst eH
    cases (show u = Value.ref it from rv)
    have hqi : q ≠ it := fun z => by
      rw [← z, upd_same] at nit
      cases nit
    have hit : s'.heap.IsTupleIter it l 0 := (I1.hok it _ upd_same).1
    refine wpAny_specialOf (name := Str.ofString "__next__") hit.typeIs F.slot_tuple_iterator_next.lookup ?_
    have hai : a ≠ it := fun z => by
      rw [← z, upd_ne (Ne.symm hne), sub _ _ ha] at nit
      cases nit
    have hxi : dx ≠ it := fun z => by
      rw [← z, upd_ne (ne_of_none (sub _ _ hdx) nq), sub _ _ hdx] at nit
      cases nit
    have hs1 : SlX.Slt (upd (upd H q (.lst [])) it (ItP l it 0)) a (cn.cA n) dx (vs.map some) := slt_upd hs hai hxi
    obtain ⟨sl1, od1, _, J1, _⟩ := SlX.slt_inst I1 hs1
    refine wpAny_bind (wpAny_holding (hint_len I1.kIn J1 gl1 (len_own I1.kIn J1 gl1 gl2 (wpAny_mono (E := fun _ _ => False) (wpAny_call (codeAny_mono (FL A1.in1.in1 X.stack s' _ [.ref a] [.ref a] _ _ sb.room.in1 (e0 sb.fr I1) (.cons rfl .nil) (hq it l ys hqi nit hl rys)) (R' := fun r s' => match r with
      | .ok (.ret v) => EP X pins σ (fun v H' => ∃ k, v = .int k ∧ 0 ≤ k ∧ k ≤ sizeLine ∧ H' q = some (.lst []) ∧ H' it = some (ItP l it 0) ∧ H' l = some (.tup ys) ∧
        ∀ H'', (∀ b, b ≠ q → b ≠ it → H'' b = H' b) → H'' q = some (.lst ys) → H'' it = some (ItU it) → Q (.ref q) H'') v s'
      | .ok _ => False
      | .error e => False) fun r s' z => ?_)) (fun w s' z => ?_) fun _ _ z => z))))
    · match r, z with
      | .error e, z => exact (cx_false z).elim
      | .ok .next, z => exact z.elim
      | .ok .brk, z => exact z.elim
      | .ok .cont, z => exact z.elim
      | .ok (.ret u), z => exact I1.after z
    · obtain ⟨z', H2, I2, rz, kk, rfl, k0, k1, q1, q2, q3, q4⟩ := z
      obtain ⟨t, rfl⟩ := rz
      have hz : (sizeLine : Int) < 2 ^ 63 := by rw [sizeLine_eq]; decide
      refine ⟨kk, t, rfl, k0, by omega, kk, _, rfl, k0, k1, fun bb => ?_⟩
      have I2 := I2.tok (s'.toks + 1)
      have hA : A1.in1.handled = none := sb.room.hd
      have loop : ∀ (s3 : Shared), Inv X pins σ H2 s3 → codeAny (model X.prog X.w) A1 (.builtin "list.extend.loop" ⟨[.ref q, .ref it, .none], []⟩) (wants (fun r s₂ => r = .none ∧ EP X pins σ Q (.ref q) s₂) X.xe) s3 := fun s3 I3 =>
        ext_loopT hA hqi ys.length 0 H2 s3 I3 q1 q2 q3 (by omega) fun H' s' I' k1 k2 k3 => ⟨rfl, .ref q, H', I', rfl, q4 H' k1 k2 k3⟩
      obtain ⟨z, its, kz, r3, hl3, e3⟩ := I2.lstM q1
      cases r3
      refine wpAny_ite_split (fun _ => ?_) (fun _ => wpAny_pure ⟨plainId_quiet PySem.F.plain_extend_loop _, loop _ I2⟩)
      refine wpAny_bind (wpAny_rule ?_)
      refine wpAny_bind ?_
      show wpAny _ _ (updateSeq q (·.push .none) >>= fun _ => updateSeq q (·.pop)) _ _ _
      refine wpAny_bind (wpAny_updateSeq e3 rfl ?_)
      have I4 := I2.lset (f := (·.push Value.none)) (its' := [Value.none]) (ys := [.non]) (t' := s'.toks + 1) q1 e3 (by simp) (.cons rfl .nil) (by rw [List.length_singleton, sizeLine_eq]; decide)
      obtain ⟨z4, its4, k4, r4, hl4, e4⟩ := I4.lstM upd_same
      obtain ⟨u4, rfl, ru4⟩ := r4.one
      refine wpAny_updateSeq e4 rfl ?_ (by show 1 ≤ sizeLine; rw [sizeLine_eq]; decide) (by show 0 ≤ sizeLine + 1; exact Nat.zero_le _)
      refine wpAny_pure ⟨plainId_quiet PySem.F.plain_extend_loop _, loop _ ?_⟩
      have I3 := I4.lset (f := (·.pop)) (its := [u4]) (its' := []) (ys := []) (t' := s'.toks + 1) upd_same e4 (by rfl) .nil (Nat.zero_le _)
      rw [upd_upd] at I3
      have hH : upd H2 q (.lst []) = H2 := upd_id q1
      rw [hH] at I3
      exact I3
theorem call_listO {cn : Cn} {ad : Ad} (hK : X.K = cn.K) (ok : LnoOk X.prog X.w X.mg X.base cn k tl) (ok2 : LioOk X.prog X.w X.mg X.base cn k ti) (hr : Room (k + 3) X.A) : CallR X (.type "list") (rListO cn ad ti tl) := by
  intro pins s σ H xs us Q I rv h
  obtain ⟨x, Hf, n, i, m, fs, ds, rfl, ei, el, sub, rx, ed, hq⟩ := h
  obtain ⟨u, rfl, ru⟩ := rv.one
  have rx0 := rx
  obtain ⟨a, dx, vs, rfl, _⟩ := rx0
  cases (show u = Value.ref a from ru)
  have sb : SubD X (k + 1) X.A.in1.in1 := (SubD.in1 (SubD.in1 (⟨hr, rfl⟩ : SubD X (k + 3) X.A)))
  refine callType_codes (Q₁ := fun obj s₁ => obj = .ref s.heap.objs.size ∧ s₁ = { s with heap := s.heap.push { cls := .type "list", data := .seq #[] } }) PySem.F.called_list (PySem.F.typeCall_list_1 _) PySem.F.entry_list_init
    (code_list_new _ ⟨rfl, rfl⟩) fun obj s₁ h₁ => ?_
  obtain ⟨rfl, rfl⟩ := h₁
  have hS : (s.heap.push { cls := .type "list", data := .seq #[] }).get? s.heap.objs.size = some { cls := .type "list", data := .seq #[] } := Heap.get?_push_size _ rfl
  refine ⟨⟨_, hS, rfl⟩, PySem.F.args_list_init_2 _ _, ?_⟩
  have fr : H s.heap.objs.size = none := I.hok.fresh (Nat.le_refl _)
  have I1 : Inv X pins σ (upd H s.heap.objs.size (.lst [])) { s with heap := s.heap.push { cls := .type "list", data := .seq #[] } } := I.lnew (its := []) (t' := s.toks) .nil (Nat.zero_le _)
  show wpAny _ _ (do let old ← Builtin.List.listItems (.ref s.heap.objs.size); Builtin.List.listUpdate (.ref s.heap.objs.size) (fun _ => #[]); letGo old.toList.reverse; Builtin.List.listExtendWith (.ref s.heap.objs.size) (.ref a) .none) _ _ _
  refine wpAny_bind ?_
  unfold Builtin.List.listItems
  refine wpAny_bind (wpAny_seqItems hS rfl (wpAny_pure ?_))
  show wpAny _ _ (updateSeq s.heap.objs.size (fun _ => #[]) >>= fun _ => letGo (#[] : Array Value).toList.reverse >>= fun _ => Builtin.List.listExtendWith (.ref s.heap.objs.size) (.ref a) .none) _ _ _
  refine wpAny_bind (wpAny_updateSeq hS rfl ?_)
  have I2 := I1.lset (f := fun _ => #[]) (its := []) (its' := []) (ys := []) (t' := s.toks) upd_same hS rfl .nil (Nat.zero_le _)
  rw [upd_upd] at I2
  refine wpAny_bind (wpAny_letGo ?_)
  exact list_extO (A1 := X.A.in1) hK ok ok2 sb I2 fr ei el sub rx ed fun it l ys => hq _ it l ys fr
def listT (ti : Nat → Option Nat) (tl : Nat → Option Fm) (ds : List D) : Option D := match ds with
  | [.ins n fs] => (match ti n, tl n with
    | some i, some m => (match fs[i]?, pureD m [.ins n fs] with
      | some (.tup es), some (.int k) => if 0 ≤ k ∧ k ≤ szL then some (.lst es) else none
      | _, _ => none)
    | _, _ => none)
  | _ => none
theorem listT_of {ds : List D} {d : D} (h : listT ti tl ds = some d) : ∃ n fs i m es k, ds = [.ins n fs] ∧ ti n = some i ∧ tl n = some m ∧ fs[i]? = some (.tup es) ∧ pureD m [.ins n fs] = some (.int k) ∧ 0 ≤ k ∧ k ≤ szL ∧ d = .lst es := by
  unfold listT at h
  split at h
  · rename_i n fs
    split at h
    · rename_i i m e1 e2
      split at h
      · rename_i es k e3 e4
        split at h
        · rename_i hk
          cases h
          exact ⟨n, fs, i, m, es, k, rfl, e1, e2, e3, e4, hk.1, hk.2, rfl⟩
        · cases h
      · cases h
    · cases h
  · cases h
theorem ok_listO : BltOk c (rListO c.toCn c.ad ti tl) (listT ti tl) := by
  intro Hf H σ l ds d vs Q R r e q
  obtain ⟨n, fs, i, m, es, k, rfl, ei, el, ed, hp, k0, k1, rfl⟩ := listT_of e
  obtain ⟨v, rfl, r1⟩ := rvals1 r
  refine ⟨v, Hf, n, i, m, fs, es, rfl, ei, el, R.sub, r1, ed, fun p it t ys np hpi nit ht rys => ?_⟩
  have R1 : REnv c Hf σ (upd H p (.lst [])) l := R.hid np fun xs z => nomatch z
  have R2 : REnv c Hf σ (upd (upd H p (.lst [])) it (ItP t it 0)) l := R1.hid nit fun xs z => by unfold ItP at z; cases z
  have hpH : upd (upd H p (.lst [])) it (ItP t it 0) p = some (.lst []) := by rw [upd_ne hpi, upd_same]
  have htl : ∀ ps, HO.lst [] ≠ .tbl ps := fun ps z => nomatch z
  refine ⟨Hf, c.ad, [.ins n fs], g0, R2.sub, dice0 R2.dice, .cons r1 .nil, ?_⟩
  unfold pureD at hp
  split at hp
  · rename_i d' g' e2
    cases hp
    rw [e2]
    intro w H' Hf' A rv
    cases (show w = .int k from rv)
    have R' := R2.pure A
    obtain ⟨p1, p2⟩ := A.frame p _ hpH (R.free np) fun z => (R2.dice.tb.ne (isD0 z) hpH htl rfl).elim
    obtain ⟨i1, i2⟩ := A.frame it _ upd_same (R1.free nit) fun z => (R2.dice.tb.ne (isD0 z) (upd_same (a := it) (o := ItP t it 0)) (fun ps z => by unfold ItP at z; cases z) rfl).elim
    refine ⟨k, rfl, k0, by rw [← szL_eq]; exact k1, p1, i1, A.sub _ _ (A.grow _ _ ht), fun H'' e1 e2 e3 => ?_⟩
    have nitH : H it = none := by rw [upd_ne (Ne.symm hpi)] at nit; exact nit
    have hidN : ∀ {b : Addr}, H b = none → c.hid b = none := fun {b} n => by
      cases e : c.hid b with
      | none => rfl
      | some u =>
        have := (R.frame b u e).1
        rw [n] at this
        cases this
    have fr : ∀ {b : Addr}, H b = none → ∀ (j : Nat) (s : Slot), l.sl[j]? = some s → isOwn s = true → σ[j]? ≠ some (some (.ref b)) := fun {b} n j s hj ho e => by
      cases s with
      | own co' =>
        obtain ⟨a', o', e', ha', _⟩ := R.own hj
        rw [e'] at e
        cases e
        rw [n] at ha'
        cases ha'
      | _ => cases ho
    have R3 := R'.see (a := it) (ItU it) i1 i2 (hidN nitH) (R.dice.new nitH) (fr nitH)
    have R4 := R3.see (a := p) (.lst ys) (by rw [upd_ne hpi]; exact p1) (by rw [upd_ne hpi]; exact p2) (hidN np) (R.dice.new np) (fr np)
    have eH : H'' = upd (upd H' it (ItU it)) p (.lst ys) := by
      funext b
      by_cases hb : b = p
      · rw [hb, upd_same]; exact e2
      · rw [upd_ne hb]
        by_cases hb2 : b = it
        · rw [hb2, upd_same]; exact e3
        · rw [upd_ne hb2]; exact e1 b hb hb2
    have sm2 : Same Hf' (upd (upd Hf' it (ItU it)) p (.lst ys)) := (same_upd i2).trans (same_upd (by rw [upd_ne hpi]; exact p2))
    rw [eH]
    exact q _ _ _ R4 (A.grow.trans sm2) ⟨p, ys, rfl, upd_same, RVals.mono (A.grow.trans sm2) _ _ rys⟩
  · cases hp
variable {W : WX} {cn : Cn} {j j2 : Nat} {a : Expr} {p pos : Pos} {fa : LSt → Res D}
theorem LnoOk.mono {P : Program} {w : World} {mg : Str → Option Value} {base : Heap} (h : LnoOk P w mg base cn j tl) (hj : j ≤ k) : LnoOk P w mg base cn k tl := ⟨fun n m e => by
  obtain ⟨g, g1, g2, F⟩ := h.ok n m e
  exact ⟨g, g1, g2, F.mono hj⟩⟩
theorem LioOk.mono {P : Program} {w : World} {mg : Str → Option Value} {base : Heap} (h : LioOk P w mg base cn j ti) (hj : j ≤ k) : LioOk P w mg base cn k ti := ⟨fun n i e => by
  obtain ⟨g, g1, g2, F⟩ := h.ok n i e
  exact ⟨g, g1, g2, F.mono hj⟩⟩
theorem e_listO (Z : Ctx X c W cn k) (T : LnoOk X.prog X.w X.mg X.base cn j tl) (T2 : LioOk X.prog X.w X.mg X.base cn j2 ti) (hj : j + 3 ≤ k) (hj2 : j2 + 3 ≤ k) (hm : X.mg "list" = none) (ha : DE X c W a fa) (hg : Gl X "list" := by rfl) (he : starEach [a] X.env = (false, eval a X.env) :: starEach [] X.env := by rfl) :
    DE X c W (.Call (.Name "list" p) [a] [] pos) (sBlt (listT ti tl) (sCons fa sNil)) :=
  de_bltT (call_listO (k := max j j2) (cn := c.toCn) (ad := c.ad) Z.hK (by rw [Z.hc]; exact T.mono (Nat.le_max_left _ _)) (by rw [Z.hc]; exact T2.mono (Nat.le_max_right _ _)) (Z.hr.mono (by omega))) ok_listO hg hm (by rfl) (da_cons ha da_nil he) (by decide) (by decide) he
end
end Dx

namespace Dx
open PySem PySem.Spec PyProof.Rows L2

section
variable {X : Cx} {c : Ac} {W : WX} {e : Expr} {f : LSt → Res D} {Hf H : Hp} {σ : L2.St} {l : LSt}
def openH (a : Addr) (Hf2 : Hp) : Hp := fun b => if b = a then none else Hf2 b
theorem openH_ne {a b : Addr} {Hf2 : Hp} (h : b ≠ a) : openH a Hf2 b = Hf2 b := if_neg h
end
end Dx

namespace Dx
open PySem PySem.Spec PyProof.Rows L2
open DxE

theorem tupEnds {P : Program} {w : World} {A : Around} (hA : A.handled = none) (q T : Addr) (ne : T ≠ q) (xs : Array Value) (n : Nat) (hn : xs[n]? = none) : Draws P w A q [q, T] n (fun _ _ => True) (fun i h => i = n ∧ h.IsTupleIter q T n ∧ h.IsTuple T xs) where
  live := fun _ _ ⟨_, ⟨o, e, _⟩, _⟩ => ⟨o, e⟩
  frame := fun _ _ _ ⟨z, a, o, e, r⟩ k => ⟨z, a.at fun o e => k q (by simp) o e, o, k T (by simp) o e, r⟩
  item := fun i s Q E hi st hQ => absurd st.1 (Nat.ne_of_lt hi)
  done := fun s Q E st hE => draw_end hA st.2.1 st.2.2 hn hE
def IteT (K : PySem.W.Frag) (a : Addr) : It :=
  ⟨fun i H => ∃ (xs : List V) (x : V), SqT K H a xs ∧ xs[i]? = some x, fun i H v H' => ∃ T x, v = .ref T ∧ H T = none ∧ H' = upd H T (.tup [.int (i : Nat), x]) ∧ ∀ xs, SqT K H a xs → xs[i]? = some x, fun i H => ∃ xs : List V, SqT K H a xs ∧ xs.length ≤ i⟩
theorem turn_enumT {P : Program} {w : World} {K : PySem.W.Frag} {elts : List Expr} {kk : Nat} {tpos : Pos} (a e it : Addr) (ha : a ≠ e ∧ a ≠ it) :
    Turn P w K (.Tuple elts kk tpos) (IteT K a) [e, it] e (fun i h => (∃ old, IsEnum h e it ((i : Nat) : Int) old) ∧ h.IsTupleIter it a i ∧ e ≠ it) where
  mem := by simp
  obj := fun i h st b hb => by
    obtain ⟨⟨old, he⟩, ⟨o, ho, hc, hd⟩, _⟩ := st
    have e' : b = e ∨ b = it := by simpa using hb
    rcases e' with z | z
    · rw [z]; exact ⟨_, he, fun v q => nomatch q⟩
    · rw [z]; exact ⟨o, ho, fun v q => by rw [hd] at q; cases q⟩
  keep := fun i h h' st k => let ⟨⟨old, he⟩, hi, hne⟩ := st; ⟨⟨old, k e (by simp) _ he⟩, hi.at fun o q => k it (by simp) o q, hne⟩
  item := by
    intro X hP hw hK hc i pins s σ H E I hf st hg
    subst hP hw hK
    obtain ⟨⟨old, he⟩, hit, hne⟩ := st
    obtain ⟨xs, x, hq, hx⟩ := hg
    obtain ⟨its, rv, p, hz⟩ := I.tuple hq
    obtain ⟨u, hu, ru⟩ := rv.get hx
    have hel : e < s.heap.objs.size := Heap.lt_size he
    have hil : it < s.heap.objs.size := by obtain ⟨_, q, _⟩ := hit; exact Heap.lt_size q
    have hlt : i < its.toArray.size := by
      rw [List.size_toArray]
      exact (List.getElem?_eq_some_iff.mp hu).1
    refine wpAny_pyNext_enum_itemD (tupDraws (P := X.prog) (w := X.w) (A := X.A.in1) (I.ok.hd hc) it a ha.2 its.toArray) he ⟨hit, p⟩ hlt hne (by
      intro z
      rcases List.mem_cons.mp z with z | z
      · exact hne z
      · exact ha.1 (List.mem_singleton.mp z).symm) fun x' h' tk hx' ho hit' hT hsz hk => ?_
    have exu : x' = u := by
      have : its.toArray[i]? = some u := by simpa using hu
      rw [this] at hx'
      exact (Option.some.inj hx').symm
    subst exu
    refine ⟨_, rfl, wpAny_letOwnedTupleGo_enum (s := { s with heap := h', toks := tk + 1 }) ho fun h'' he' sb => ?_⟩
    have hT2 : h''.get? s.heap.objs.size = some { cls := .type "tuple", data := .seq #[.int i tk, x'] } := (sb.2 _ (Nat.ne_of_gt hel)).trans hT
    have new : ObjOk X.prog X.w (upd H s.heap.objs.size (.tup [.int (i : Nat), x])) h'' s.heap.objs.size (.tup [.int (i : Nat), x]) :=
      ⟨by show 2 ≤ sizeLine; decide, [.int i tk, x'], .cons ⟨_, rfl⟩ (.cons ru .nil), ⟨_, hT2, rfl, _, rfl⟩⟩
    have I1 : Inv X pins σ (upd H s.heap.objs.size (.tup [.int (i : Nat), x])) { s with heap := h'', toks := tk + 1 } :=
      I.turnedNew (ch := [e, it]) (fun b ob hb q => (sb.2 b (fun z => hb (by simp [z]))).trans (hk b ob (fun z => hb (by simp [z])) (fun z => hb (by simp [z])) q)) hf (Nat.le_refl _) new
    refine ⟨.ref s.heap.objs.size, _, I1, rfl, ⟨_, x, rfl, I.hok.fresh (Nat.le_refl _), rfl, fun ys hy => by rw [I.tuple_inj hy hq]; exact hx⟩, ⟨⟨x', ?_⟩, hit'.1.at fun o q => (sb.2 it (Ne.symm hne)).trans q, hne⟩, fun b hb => ?_⟩
    · have e1 : ((i + 1 : Nat) : Int) = (i : Int) + 1 := by omega
      rw [e1]; exact he'
    · have hb' : b < s.heap.objs.size := by
        have e' : b = e ∨ b = it := by simpa using hb
        rcases e' with z | z
        · rw [z]; exact hel
        · rw [z]; exact hil
      rw [upd_ne (Nat.ne_of_lt hb')]
      exact (hf b hb).1
  done := by
    intro X hP hw hK hc i pins s σ H E I hf st hg
    subst hP hw hK
    obtain ⟨⟨old, he⟩, hit, hne⟩ := st
    obtain ⟨xs, hq, hx⟩ := hg
    obtain ⟨its, rv, p, hz⟩ := I.tuple hq
    obtain ⟨f0, f1, f2, f3, f4, f5⟩ := hf it (by simp)
    have hl := rv.length
    exact wpAny_pyNext_enum_endD (tupEnds (P := X.prog) (w := X.w) (A := X.A.in1) (I.ok.hd hc) it a ha.2 its.toArray i (by simp; omega)) he ⟨rfl, hit, p⟩ fun h' eb => ⟨rfl, I.turned (t' := s.toks) (fun b o hb q => eb b o hb q) f0 f1 f3 f4 f5⟩
  self := fun A i s Q E st h => let ⟨⟨_, he⟩, _⟩ := st; wpAny_pyIter_enum he h
def iEnumA (K : PySem.W.Frag) (ta : TA) : TI := fun σ H R => ta σ H fun vs H1 => ∃ a xs, vs = [.ref a] ∧ ((SqL K H1 a xs ∧ R (Ite K a) H1) ∨ (SqT K H1 a xs ∧ R (IteT K a) H1))
theorem pi_enumA {X : Cx} {e : Expr} {ta : TA} {p pos tpos : Pos} {elts : List Expr} {kk : Nat} (hg : Gl X "enumerate") (hm : X.mg "enumerate" = none) (ha : PA X [e] ta) (hs : starEach [e] X.env = [(false, eval e X.env)] := by rfl) :
    PI X (.Tuple elts kk tpos) (.Call (.Name "enumerate" p) [e] [] pos) (iEnumA X.K ta) := by
  refine ⟨fun pins s σ H R I h => ?_⟩
  refine Call_ (ld_blt I hg hm boot_enumerate (PyProof.Rows.callWith_type1 (thn (ha.run pos pins s σ H _ I h) fun us s1 ⟨vs, H1, I1, r1, q1⟩ => ?_) hs rfl))
  obtain ⟨a, xs, ex, q⟩ := q1
  subst ex
  cases r1 with
  | cons r rr =>
    cases rr
    cases r
    have fresh : ∀ b, b ∈ [s1.heap.objs.size + 1, s1.heap.objs.size] → FpOk X pins H1 b := fun b hb => by
      have e' : b = s1.heap.objs.size + 1 ∨ b = s1.heap.objs.size := by simpa using hb
      have hle : s1.heap.objs.size ≤ b := by
        rcases e' with z | z
        · rw [z]; exact Nat.le_add_right _ _
        · rw [z]; exact Nat.le_refl _
      exact I1.fpOk hle (I1.hok.fresh hle)
    rcases q with ⟨hq, q⟩ | ⟨hq, q⟩
    · obtain ⟨its, rv, p', hz⟩ := I1.list hq
      refine call_enumerate_list p'.isList fun h' he hit hsz hk => wpAny_pyIter_enum he ?_
      have I2 : Inv X pins σ H1 { s1 with heap := h' } := I1.kept (t' := s1.toks) hk
      exact ⟨s1.heap.objs.size + 1, [s1.heap.objs.size + 1, s1.heap.objs.size], _, _, H1, rfl, I2, turn_enum a (s1.heap.objs.size + 1) s1.heap.objs.size, ⟨⟨.none, he⟩, hit, Nat.succ_ne_self _⟩, fresh, q⟩
    · obtain ⟨its, rv, p', hz⟩ := I1.tuple hq
      obtain ⟨o1, ho1, _⟩ := id p'
      have hlt : a < s1.heap.objs.size := Heap.lt_size ho1
      refine call_enum (show s1.heap.IsTuple a its.toArray from p') fun h' he hit hsz hk => wpAny_pyIter_enum he ?_
      have I2 : Inv X pins σ H1 { s1 with heap := h' } := I1.kept (t' := s1.toks) hk
      exact ⟨s1.heap.objs.size + 1, [s1.heap.objs.size + 1, s1.heap.objs.size], _, _, H1, rfl, I2, turn_enumT a (s1.heap.objs.size + 1) s1.heap.objs.size ⟨Nat.ne_of_lt (Nat.lt_succ_of_lt hlt), Nat.ne_of_lt hlt⟩, ⟨⟨.none, he⟩, hit, Nat.succ_ne_self _⟩, fresh, q⟩
theorem goodET {c : Ac} {Hf1 H1 : Hp} {σ1 : L2.St} {l1 : LSt} {a : Addr} {vs : List V} {ds : List D} (h : SqT c.K Hf1 a vs) (r : RVals c.toCn c.ad Hf1 ds vs) : GoodIt c (IteT c.K a) Hf1 (enumD 0 ds) := by
  intro Hf σ H l R s
  have hq : SqT c.K H a vs := sqM R.sub (sqM s h)
  refine ⟨fun i d e => ?_, ⟨vs, hq, by rw [enumD_length, r.length]; exact Nat.le_refl _⟩⟩
  obtain ⟨x, ex, rfl⟩ := enumD_get ds 0 i d e
  obtain ⟨v, ev, rv⟩ := r.get ex
  refine ⟨⟨vs, v, hq, ev⟩, fun y H' hy => ?_⟩
  obtain ⟨T, z, rfl, n, rfl, q⟩ := hy
  have e2 := q vs hq
  rw [ev] at e2
  cases e2
  have nf := R.free n
  refine ⟨upd Hf T (.tup [.int (i : Nat), v]), same_upd nf, ?_, .inr ⟨T, _, n, rfl, rfl⟩⟩
  refine RVal.tupNew nf (.cons ?_ (.cons (rv.mono s) .nil))
  rw [Nat.zero_add]
  rfl
def enumAD : List D → Option (List D)
  | [.lst ds] => some (enumD 0 ds)
  | [.tup ds] => some (enumD 0 ds)
  | _ => none
theorem enumA_inv {ds xs : List D} (h : enumAD ds = some xs) : ∃ es, (ds = [.lst es] ∨ ds = [.tup es]) ∧ xs = enumD 0 es := by
  unfold enumAD at h
  split at h
  · rename_i es
    cases h
    exact ⟨es, .inl rfl, rfl⟩
  · rename_i es
    cases h
    exact ⟨es, .inr rfl, rfl⟩
  · cases h
section
variable {X : Cx} {c : Ac} {W : WX} {e a b : Expr} {pos p : Pos} {fs : LSt → Res (List D)}
theorem di_enumA {elts : List Expr} {kk : Nat} {tpos : Pos} (hK : X.K = c.K) (hg : Gl X "enumerate") (hm : X.mg "enumerate" = none) (ha : DA X c W [e] fs) (hs : starEach [e] X.env = [(false, eval e X.env)] := by rfl) : DI X c W (.Tuple elts kk tpos) (.Call (.Name "enumerate" p) [e] [] pos) (sWalk enumAD fs) :=
  ⟨(pi_enumA hg hm ha.pa hs).imp' fun σ H R ⟨Hf, l, RR, h⟩ => run_bindA walk_mo RR h fun ds l1 vs H1 Hf1 R1 s1 r1 h1 => by
    cases e : enumAD ds with
    | none =>
      rw [e] at h1
      exact h1.elim
    | some xs =>
      rw [e] at h1
      obtain ⟨es, hd, rfl⟩ := enumA_inv e
      rw [hK]
      rcases hd with rfl | rfl
      · obtain ⟨x, rfl, q1⟩ := rvals1 r1
        obtain ⟨a, us, rfl, ha, r⟩ := q1
        exact ⟨a, us, rfl, .inl ⟨SqL.of (R1.sub _ _ ha), h1 _ H1 Hf1 R1 (Same.refl _) (goodE ha r)⟩⟩
      · obtain ⟨x, rfl, q1⟩ := rvals1 r1
        obtain ⟨a, us, rfl, ha, r⟩ := q1
        exact ⟨a, us, rfl, .inr ⟨sameT R1.sub ha, h1 _ H1 Hf1 R1 (Same.refl _) (goodET (H1 := H1) (σ1 := σ) (l1 := l1) (tupS ha) r)⟩⟩⟩
end
end Dx

namespace Dx
open PySem PySem.Spec PyProof.Rows L2
def mOfS (n p : Nat) (fb : LSt → Fl) : Fm := fun ds g => if p ≤ ds.length ∧ ds.length ≤ szL then mOf n (p + 1) fb (ds.take p ++ [.tup (ds.drop p)]) g else .bad
section
variable {CX : CXT} {P : Program} {w : World} {K : PySem.W.Frag} {mg : Str → Option Value} {base : Heap} {k : Nat} {f : Addr} {name qual : Str} {params : Arguments} {body : List Stmt} {scope : Scope} {dV kV doc pm cdv ct oc : Value} {an od : Option Addr}
  {osl : Array (Option Value)} {N ps : List Str} {sp : Sp}
theorem run_bndD {A : Around} {outer : List Env} {s : Shared} {H : Hp} {args : Args} {Q : VK} {E : XK} {G : List V → Hp → Prop} (lk : K.lookup f = some ⟨oc, od, .func (PySem.W.fnOf name qual params body scope dV kV doc pm an cdv ct), osl⟩) (hcd : PySem.W.codeIn K cdv qual = true)
    (S : FnScope N ps scope) (hr : Dx.Room (k + 1) A) (e0 : Env0 P w K mg base A outer s H) (hb : StX.Bnd CX P w K mg base (PySem.W.fnOf name qual params body scope dV kV doc pm an cdv ct) args ps A outer s H E G)
    (hbody : ∀ (s2 : Shared) (H2 : Hp) (vs : List V), G vs H2 → Dx.Room k (A.deeper (envOfC qual scope s2.heap.objs.size f cdv)) →
      ∃ t, PSs (cxOf CX P w K mg base N qual scope f cdv A outer s2 H2 E) body t ∧ t { nx := fun _ H' => Q .non H', rt := Q } (start N vs) H2) : codeAny (model P w) A (.call (.ref f) args) (CR CX outer P w H s Q E) s := by
  have KX : K.In s.heap := e0.mod.kin.keeps fun b o e => (e0.bs b o e).1
  refine codeAny_call_function hr.depth (KX _ _ lk) rfl S.co S.gen rfl (PySem.W.codeRec_of KX hcd) ?_
  refine hb _ _ _ fun s2 H2 vs us e2 un ho hx r hl g => ?_
  have lim : s2.heap.NoLimit := e0.mod.nolimit.keeps fun b o e => (e2.bs b o e).1
  have hkind : ∀ y ∈ ps.zip us, scope.names.lookup y.1 = some .local ∨ (scope.names.lookup y.1 = some .cell ∧ ((cellsFrom (s2.heap.objs.size + 1) scope.names []).lookup y.1).isSome = true) := fun y hy => by
    rcases S.par y.1 (List.of_mem_zip hy).1 with q | q
    · exact .inl q
    · exact .inr ⟨q, PySem.W.cellsFrom_some _ _ _ (.inl q)⟩
  refine wpAny_newFunctionEnv_cells (s := s2) S.kind hkind fun env he s1 x => ?_
  subst he
  refine ⟨lim.keeps x.toInCall.keep, codeAny_func ?_⟩
  obtain ⟨t, ht, hq⟩ := hbody s2 H2 vs g (hr.deeper _)
  have I : Inv (cxOf CX P w K mg base N qual scope f cdv A outer s2 H2 E) [] (start N vs) H2 s1 := inv_start S hr.hd e2 hl r x
  refine wpAny_mono (ht.run [] s1 _ _ _ I hq) (fun fl s' hs => ?_) fun e s' hs => ?_
  · have fin : ∀ {σ' : L2.St} {H' : Hp} {v' : V} {u' : Value}, Inv (cxOf CX P w K mg base N qual scope f cdv A outer s2 H2 E) [] σ' H' s' → RelV v' u' → Q v' H' → CE outer P w H s Q u' s' :=
      fun {σ' H' v' u'} J rv' q => ⟨v', H', J.os.trans ho, J.bare, un.trans J.base, J.hok, rv', q⟩
    cases fl with
    | ret u' =>
      obtain ⟨v', σ', H', J, rv', q⟩ := hs
      exact fin J rv' q
    | next =>
      obtain ⟨σ', H', J, q⟩ := hs
      exact fin (v' := V.non) (u' := Value.none) J rfl q
    | brk =>
      obtain ⟨_, _, _, q⟩ := hs
      exact False.elim q
    | cont =>
      obtain ⟨_, _, _, q⟩ := hs
      exact False.elim q
  · exact wpAny_mono hs (fun _ s'' z => hx e s'' z) fun e' s'' z => hx e' s'' z
theorem fn_starD {pv : Str} (lk : K.lookup f = some ⟨oc, od, .func (PySem.W.fnOf name qual params body scope dV kV doc pm an cdv ct), osl⟩) (hcd : PySem.W.codeIn K cdv qual = true) (S : FnScope N (ps ++ [pv]) scope) (hCX : StX.CXUp CX)
    (hb : ∀ us rest : List Value, us.length = ps.length → bindArgs (PySem.W.fnOf name qual params body scope dV kV doc pm an cdv ct) ⟨us ++ rest, []⟩ = (newTuple rest >>= fun t => pure (ps.zip us ++ [(pv, t)])))
    (hbody : ∀ (A : Around) (outer : List Env) (s : Shared) (H : Hp) (vs : List V) (Q : VK) (E : XK), Dx.Room k (A.deeper (envOfC qual scope s.heap.objs.size f cdv)) → sp vs H Q E →
      ∃ t, PSs (cxOf CX P w K mg base N qual scope f cdv A outer s H E) body t ∧ t { nx := fun _ H' => Q .non H', rt := Q } (start N vs) H) :
    Dx.FnR P w K mg base CX (k + 1) f (fun vs H Q E => ∃ ws rest, vs = ws ++ rest ∧ ws.length = ps.length ∧ rest.length ≤ sizeLine ∧ ∀ p, H p = Option.none → sp (ws ++ [V.ref p]) (upd H p (.tup rest)) Q E) := by
  intro A outer s H us vs Q E hr e0 r hsp
  obtain ⟨ws, rest, ev, hl, hz, hq⟩ := hsp
  subst ev
  obtain ⟨u1, u2, eu, r1, r2⟩ := StX.vals_split r
  subst eu
  have hn : H s.heap.objs.size = Option.none := e0.hok.fresh (Nat.le_refl _)
  have hl1 : u1.length = ps.length := by rw [← r1.length]; exact hl
  have hl2 : u2.length ≤ sizeLine := by rw [← r2.length]; exact hz
  refine run_bndD lk hcd S hr e0 (G := fun xs H2 => ∃ p, H p = Option.none ∧ xs = ws ++ [V.ref p] ∧ H2 = upd H p (.tup rest)) (fun A' Ex Q' h => ?_) fun s2 H2 xs ⟨p, hp, ex, eH⟩ hr' => ?_
  · rw [hb u1 u2 hl1]
    refine wpAny_bind (wpAny_newTuple (wpAny_pure ?_) hl2)
    have new : ObjOk P w (upd H s.heap.objs.size (.tup rest)) (s.heap.push ({ cls := .type "tuple", data := .seq u2.toArray } : Obj)) s.heap.objs.size (.tup rest) := ⟨hz, u2, r2, ⟨_, Heap.get?_push_size _ rfl, rfl, _, rfl⟩⟩
    have un := StX.un_laid (fs := frs outer) (s := s) (o := ({ cls := .type "tuple", data := .seq u2.toArray } : Obj)) (u := .tup rest) hn
    have z := h _ _ (ws ++ [V.ref s.heap.objs.size]) (u1 ++ [Value.ref s.heap.objs.size]) (StX.env0_laid e0 new) un rfl (fun e s' => hCX outer s H _ _ E e s' un (fun b o q => Heap.get?_push_of_some _ q) rfl) (r1.append (.cons rfl .nil))
      (by rw [List.length_append, List.length_append, hl] <;> rfl) ⟨_, hn, rfl, rfl⟩
    rw [List.zip_append hl1.symm] at z
    exact z
  · subst ex eH
    exact hbody A outer s2 _ _ Q E hr' (hq p hp)
end
section
variable {P : Program} {w : World} {K : PySem.W.Frag} {mg : Str → Option Value} {base : Heap} {cn : Cn} {x qual : Str} {params : Arguments} {body : List Stmt} {scope : Scope} {f : Addr} {fd : FuncData} {N ps : List Str} {k : Nat} {fb : LSt → Fl} {pv : Str}
theorem Aft.less {ad : Ad} {g g' : G} {H Hf H' Hf' : Hp} {p : Addr} {o : HO} (n : H p = none) (nf : Hf p = none) (a : Aft cn ad g g' (upd H p o) (upd Hf p o) H' Hf') : Aft cn ad g g' H Hf H' Hf' :=
  ⟨(same_upd nf).trans a.grow, a.sub, fun b u h1 h2 h3 => a.frame b u (by rw [upd_ne (ne_of_none h1 n)]; exact h1) (by rw [upd_ne (ne_of_none h1 n)]; exact h2) h3, a.dice, a.hgs⟩
theorem REV.less {ad : Ad} {H Hf' H' : Hp} {g' : G} {p : Addr} {o : HO} (n : H p = none) : ∀ {e : EV} {v : V}, REV cn ad (upd H p o) Hf' H' g' e v → REV cn ad H Hf' H' g' e v
  | .v d, v, h => h
  | .o co, v, ⟨a, u, e1, e2, e3, e4, e5, e6⟩ => ⟨a, u, e1, e2, e3, e4, by
      by_cases z : a = p
      · rw [z]; exact n
      · rw [upd_ne z] at e5; exact e5, e6⟩
theorem rvals_take {ad : Ad} {H : Hp} : ∀ {ds : List D} {vs : List V} (p : Nat), RVals cn ad H ds vs → RVals cn ad H (ds.take p) (vs.take p) ∧ RVals cn ad H (ds.drop p) (vs.drop p)
  | [], vs, p, r => by
    cases (show vs = [] from r)
    rw [List.take_nil, List.drop_nil, List.take_nil, List.drop_nil]
    exact ⟨rfl, rfl⟩
  | d :: ds, vs, 0, r => ⟨rfl, r⟩
  | d :: ds, vs, p + 1, r => by
    obtain ⟨v, t, rfl, r1, r2⟩ := r
    obtain ⟨q1, q2⟩ := rvals_take p r2
    exact ⟨⟨v, t.take p, rfl, r1, q1⟩, q2⟩
theorem fs0 {n p : Nat} (hK : K = cn.K) (F : FunD K x qual params body scope [] [] f fd) (S : FnScope N (ps ++ [pv]) scope)
    (hb : ∀ (kV doc pm : Value) (an : Option Addr) (cdv ct : Value) (us rest : List Value), us.length = ps.length → bindArgs (PySem.W.fnOf x qual params body scope .none kV doc pm an cdv ct) ⟨us ++ rest, []⟩ = (newTuple rest >>= fun t => pure (ps.zip us ++ [(pv, t)])))
    (hbody : ∀ (cdv : Value) (A : Around) (outer : List Env) (s : Shared) (H : Hp) (E : XK) (c : Ac), Ctx (cxOf (L2.CX P w) P w K mg base N qual scope f cdv A outer s H E) c (fun cls d _ H' => E cls d H') cn k →
      DSs (cxOf (L2.CX P w) P w K mg base N qual scope f cdv A outer s H E) c (fun cls d _ H' => E cls d H') body fb) (hn : N.length = n := by rfl) (hp : ps.length = p := by rfl) : FnR P w K mg base (L2.CX P w) (k + 1) f (spF cn (mOfS n p fb)) := by
  subst hn hp
  obtain ⟨oc, od, dV, kV, doc, pm, an, cdv, ct, osl, rfl, lk, hcd, hD, _⟩ := F.ex
  have ed : dV = .none := by
    rcases hD with ⟨_, rfl⟩ | ⟨e, _⟩
    · rfl
    · exact absurd rfl e
  subst ed
  refine (fn_starD (sp := fun vs H Q E => vs.length = (ps ++ [pv]).length ∧ spF cn (mOf N.length (ps.length + 1) fb) vs H Q E) lk hcd S StX.cxUp (fun us rest h => hb kV doc pm an cdv ct us rest h) fun A outer s H vs Q E hr h => ?_).imp fun vs H Q E h => ?_
  · obtain ⟨hl, Hf, ad, ds, g, sm, dc, r, h⟩ := h
    refine ⟨_, (hbody cdv A outer s H E { toCn := cn, hid := hidOf cn H Hf g ad, Hf0 := Hf, ad := ad, gs := g.sh } ⟨hK, rfl, hr, takes_of rfl rfl rfl rfl, rfl, S.nd, passes_of rfl⟩).pss, Hf, _, env_start (N := N) sm dc r, ?_⟩
    have hd : ds.length = ps.length + 1 := by rw [r.length, hl, List.length_append]; rfl
    refine ends_ok ?_
    have h' : EndW cn ad g H Hf Q E (mOf N.length (ps.length + 1) fb ds g) := by
      cases e : mOf N.length (ps.length + 1) fb ds g with
      | ok ev g' => rw [e] at h; exact h
      | ex x g' => rw [e] at h; exact h
      | bad => rw [e] at h; exact h
    unfold mOf at h'
    rw [if_pos hd] at h'
    rw [hd]
    exact h'
  · obtain ⟨Hf, ad, ds, g, sm, dc, r, h⟩ := h
    unfold mOfS at h
    by_cases hz : ps.length ≤ ds.length ∧ ds.length ≤ szL
    · rw [if_pos hz] at h
      obtain ⟨q1, q2⟩ := rvals_take ps.length r
      refine ⟨vs.take ps.length, vs.drop ps.length, (List.take_append_drop _ _).symm, by rw [List.length_take, ← r.length]; omega, by rw [List.length_drop, ← r.length, ← szL_eq]; omega, fun a ha => ⟨?_, ?_⟩⟩
      · rw [List.length_append, List.length_append, List.length_take, ← r.length]
        show min _ _ + 1 = ps.length + 1
        omega
      · have fa : Hf a = none := sm.free ha
        have s1 : Same Hf (upd Hf a (.tup (vs.drop ps.length))) := same_upd fa
        refine ⟨upd Hf a (.tup (vs.drop ps.length)), ad, ds.take ps.length ++ [.tup (ds.drop ps.length)], g, fun b u e => ?_, dc.alloc ha fa, (RVals.mono s1 _ _ q1).append (.cons (show RVal cn ad (upd Hf a (.tup (vs.drop ps.length))) (.tup (ds.drop ps.length)) (.ref a) from ⟨a, _, rfl, upd_same, RVals.mono s1 _ _ q2⟩) .nil), ?_⟩
        · by_cases hb2 : b = a
          · subst hb2
            rw [upd_same] at e ⊢
            exact e
          · rw [upd_ne hb2] at e ⊢
            exact sm b u e
        · cases e : mOf N.length (ps.length + 1) fb (ds.take ps.length ++ [.tup (ds.drop ps.length)]) g with
          | ok ev g' =>
            rw [e] at h
            exact fun v H' Hf' A R => h v H' Hf' (A.less ha fa) (R.less ha)
          | ex x g' =>
            rw [e] at h
            exact fun cls dd H' Hf' A R => h cls dd H' Hf' (A.less ha fa) R
          | bad =>
            rw [e] at h
            exact h
    · rw [if_neg hz] at h
      exact h.elim
end
end Dx

namespace Dx
open PySem PySem.Spec PyProof.Rows L2
def diffL (es ds : List D) : Bool := (es.length != ds.length) || (match es, ds with
  | .int _ :: _, .tup _ :: _ => true
  | .tup _ :: _, .int _ :: _ => true
  | .int _ :: _, .lst _ :: _ => true
  | .lst _ :: _, .int _ :: _ => true
  | .int _ :: _, .ins _ _ :: _ => true
  | .ins _ _ :: _, .int _ :: _ => true
  | _, _ => false)
mutual
def newD (ds : List D) : D → Bool
  | .tup es => newDs ds es
  | .lst es => diffL es ds && newDs ds es
  | .dK _ es => newDs ds es
  | .dT _ es => newDs ds es
  | .ins _ es => newDs ds es
  | .scr _ => false
  | .rng _ _ => true
  | .gtp _ => true
  | .non => true
  | .bl _ => true
  | .int _ => true
  | .str _ => true
  | .ty _ => true
  | .glo _ => true
  | .dice => true
def newDs (ds : List D) : List D → Bool
  | [] => true
  | e :: es => newD ds e && newDs ds es
end
theorem diff_ok {cn : Cn} {ad : Ad} {H : Hp} {es ds : List D} {vs : List V} (h : diffL es ds = true) (r1 : RVals cn ad H es vs) (r2 : RVals cn ad H ds vs) : False := by
  unfold diffL at h
  rw [Bool.or_eq_true] at h
  rcases h with h | h
  · have := r1.length
    have := r2.length
    simp only [bne_iff_ne, ne_eq] at h
    omega
  · split at h
    · obtain ⟨v, t, rfl, q1, _⟩ := r1
      obtain ⟨w, u, e, ⟨a, xs, q2, _⟩, _⟩ := r2
      cases e
      rw [show v = V.int _ from q1] at q2
      cases q2
    · obtain ⟨w, u, rfl, ⟨a, xs, q2, _⟩, _⟩ := r1
      obtain ⟨v, t, e, q1, _⟩ := r2
      cases e
      rw [show w = V.int _ from q1] at q2
      cases q2
    · obtain ⟨v, t, rfl, q1, _⟩ := r1
      obtain ⟨w, u, e, ⟨a, xs, q2, _⟩, _⟩ := r2
      cases e
      rw [show v = V.int _ from q1] at q2
      cases q2
    · obtain ⟨w, u, rfl, ⟨a, xs, q2, _⟩, _⟩ := r1
      obtain ⟨v, t, e, q1, _⟩ := r2
      cases e
      rw [show w = V.int _ from q1] at q2
      cases q2
    · obtain ⟨v, t, rfl, q1, _⟩ := r1
      obtain ⟨w, u, e, ⟨a, dx, xs, q2, _⟩, _⟩ := r2
      cases e
      rw [show v = V.int _ from q1] at q2
      cases q2
    · obtain ⟨w, u, rfl, ⟨a, dx, xs, q2, _⟩, _⟩ := r1
      obtain ⟨v, t, e, q1, _⟩ := r2
      cases e
      rw [show w = V.int _ from q1] at q2
      cases q2
    · cases h
section
variable {cn : Cn} {ad : Ad} {H : Hp} {a : Addr} {ds : List D} {vs : List V}
mutual
theorem RVal.opened (at2 : H a = some (.lst vs)) (rd : RVals cn ad H ds vs) : ∀ (d : D) (v : V), newD ds d = true → RVal cn ad H d v → RVal cn ad (openH a H) d v
  | .non, _, _, h => h
  | .bl _, _, _, h => h
  | .int _, _, _, h => h
  | .str _, _, _, h => h
  | .ty _, _, _, h => h
  | .glo _, _, _, h => h
  | .dice, _, _, h => h
  | .scr _, _, e, _ => by cases e
  | .rng _ _, _, _, ⟨b, q, h⟩ => ⟨b, q, by rw [openH_ne (fun z => by rw [z, at2] at h; cases h)]; exact h⟩
  | .gtp _, _, _, h => h
  | .tup es, _, e, ⟨b, xs, q, h, r⟩ => ⟨b, xs, q, (by rw [openH_ne (fun z => by rw [z, at2] at h; cases h)]; exact h), RVals.opened at2 rd es xs e r⟩
  | .lst es, _, e, ⟨b, xs, q, h, r⟩ => by
    have e' : (diffL es ds && newDs ds es) = true := e
    rw [Bool.and_eq_true] at e'
    refine ⟨b, xs, q, ?_, RVals.opened at2 rd es xs e'.2 r⟩
    rw [openH_ne]
    · exact h
    · intro z
      rw [z, at2] at h
      cases h
      exact diff_ok e'.1 r rd
  | .dK ks es, _, e, ⟨b, od, xs, q, h, l, r⟩ => ⟨b, od, xs, q, by rw [openH_ne (fun z => by rw [z, at2] at h; cases h)]; exact h, l, RVals.opened at2 rd es xs e r⟩
  | .dT ks es, _, e, ⟨b, od, xs, q, h, l, r⟩ => ⟨b, od, xs, q, by rw [openH_ne (fun z => by rw [z, at2] at h; cases h)]; exact h, l, RVals.opened at2 rd es xs e r⟩
  | .ins n es, _, e, ⟨b, dx, xs, q, h, h2, r⟩ => ⟨b, dx, xs, q, by rw [openH_ne (fun z => by rw [z, at2] at h; cases h)]; exact h, by rw [openH_ne (fun z => by rw [z, at2] at h2; cases h2)]; exact h2, RVals.opened at2 rd es xs e r⟩
theorem RVals.opened (at2 : H a = some (.lst vs)) (rd : RVals cn ad H ds vs) : ∀ (es : List D) (xs : List V), newDs ds es = true → RVals cn ad H es xs → RVals cn ad (openH a H) es xs
  | [], _, _, h => h
  | e :: es, _, h, ⟨v, t, q, r1, r2⟩ => by
    have h' : (newD ds e && newDs ds es) = true := h
    rw [Bool.and_eq_true] at h'
    exact ⟨v, t, q, RVal.opened at2 rd e v h'.1 r1, RVals.opened at2 rd es t h'.2 r2⟩
end
end
section
variable {X : Cx} {c : Ac} {W : WX} {e : Expr} {f : LSt → Res D} {Hf H : Hp} {σ : L2.St} {l : LSt}
end
end Dx

namespace Ln
def G (b : Int) (ts : List Int) : Nat := ts.foldl (fun s t => Nat.gcd s t.natAbs) b.natAbs
def foldG (s : Nat) (ts : List Int) : Nat := ts.foldl (fun s t => Nat.gcd s t.natAbs) s
theorem foldG_mul (c : Int) : ∀ (ts : List Int) (s : Nat), foldG (s * c.natAbs) (ts.map (· * c)) = foldG s ts * c.natAbs
  | [], s => rfl
  | t :: ts, s => by
    show foldG (Nat.gcd (s * c.natAbs) (t * c).natAbs) (ts.map (· * c)) = foldG (Nat.gcd s t.natAbs) ts * c.natAbs
    rw [Int.natAbs_mul, Nat.gcd_mul_right, foldG_mul c ts]
theorem G_mul (b c : Int) (ts : List Int) : G (b * c) (ts.map (· * c)) = G b ts * c.natAbs := by
  show foldG (b * c).natAbs _ = foldG b.natAbs ts * _
  rw [Int.natAbs_mul, foldG_mul]
theorem foldG_dvd : ∀ (ts : List Int) (s : Nat), foldG s ts ∣ s ∧ ∀ t ∈ ts, (foldG s ts : Int) ∣ t
  | [], s => ⟨Nat.dvd_refl s, fun _ h => by cases h⟩
  | t :: ts, s => by
    obtain ⟨h1, h2⟩ := foldG_dvd ts (Nat.gcd s t.natAbs)
    refine ⟨Nat.dvd_trans h1 (Nat.gcd_dvd_left ..), fun x hx => ?_⟩
    rcases List.mem_cons.mp hx with rfl | hx
    · exact Int.ofNat_dvd_left.mpr (Nat.dvd_trans h1 (Nat.gcd_dvd_right ..))
    · exact h2 x hx
theorem G_dvd_b (b : Int) (ts : List Int) : (G b ts : Int) ∣ b := Int.ofNat_dvd_left.mpr (foldG_dvd ts b.natAbs).1
theorem G_dvd_t {b : Int} {ts : List Int} {t : Int} (h : t ∈ ts) : (G b ts : Int) ∣ t := (foldG_dvd ts b.natAbs).2 t h
theorem G_pos {b : Int} (h : b ≠ 0) (ts : List Int) : 0 < G b ts := by
  rcases Nat.eq_zero_or_pos (G b ts) with z | z
  · have := G_dvd_b b ts
    rw [z] at this
    exact absurd (Int.zero_dvd.mp this) h
  · exact z
def sh (b : Int) (ts : List Int) : Int := if b < 0 then -(G b ts : Int) else G b ts
theorem sh_ne {b : Int} (h : b ≠ 0) (ts : List Int) : sh b ts ≠ 0 := by
  have := G_pos h ts
  unfold sh
  split <;> omega
theorem sh_dvd_b (b : Int) (ts : List Int) : sh b ts ∣ b := by
  unfold sh
  split
  · exact Int.neg_dvd.mpr (G_dvd_b b ts)
  · exact G_dvd_b b ts
theorem sh_dvd_t {b : Int} {ts : List Int} {t : Int} (h : t ∈ ts) : sh b ts ∣ t := by
  unfold sh
  split
  · exact Int.neg_dvd.mpr (G_dvd_t h)
  · exact G_dvd_t h
def nfT (b : Int) (ts : List Int) : List Int := ts.map (· / sh b ts)
def nfB (b : Int) (ts : List Int) : Int := b / sh b ts
theorem sh_mul {b c : Int} (hb : b ≠ 0) (hc : c ≠ 0) (ts : List Int) : sh (b * c) (ts.map (· * c)) = sh b ts * c := by
  unfold sh
  rw [G_mul]
  rcases Int.lt_or_gt_of_ne hb with h1 | h1 <;> rcases Int.lt_or_gt_of_ne hc with h2 | h2
  · have h3 : 0 < b * c := Int.mul_pos_of_neg_of_neg h1 h2
    rw [if_neg (by omega), if_pos h1, Int.natCast_mul, Int.ofNat_natAbs_of_nonpos (Int.le_of_lt h2)]
    simp [Int.mul_neg, Int.neg_mul]
  · have h3 : b * c < 0 := Int.mul_neg_of_neg_of_pos h1 h2
    rw [if_pos h3, if_pos h1, Int.natCast_mul, Int.natAbs_of_nonneg (Int.le_of_lt h2)]
    simp [Int.neg_mul]
  · have h3 : b * c < 0 := Int.mul_neg_of_pos_of_neg h1 h2
    rw [if_pos h3, if_neg (by omega), Int.natCast_mul, Int.ofNat_natAbs_of_nonpos (Int.le_of_lt h2)]
    simp [Int.mul_neg]
  · have h3 : 0 < b * c := Int.mul_pos h1 h2
    rw [if_neg (by omega), if_neg (by omega), Int.natCast_mul, Int.natAbs_of_nonneg (Int.le_of_lt h2)]
theorem div_mul {s c t : Int} (hs : s ≠ 0) (hc : c ≠ 0) (h : s ∣ t) : t * c / (s * c) = t / s := by
  obtain ⟨k, rfl⟩ := h
  rw [show s * k * c = s * c * k by rw [Int.mul_assoc, Int.mul_comm k c, Int.mul_assoc], Int.mul_ediv_cancel_left _ (Int.mul_ne_zero hs hc), Int.mul_ediv_cancel_left _ hs]
theorem nf_mul {b c : Int} (hb : b ≠ 0) (hc : c ≠ 0) (ts : List Int) : nfB (b * c) (ts.map (· * c)) = nfB b ts ∧ nfT (b * c) (ts.map (· * c)) = nfT b ts := by
  unfold nfB nfT
  rw [sh_mul hb hc]
  refine ⟨div_mul (sh_ne hb ts) hc (sh_dvd_b b ts), ?_⟩
  rw [List.map_map]
  exact List.map_congr_left fun t ht => div_mul (sh_ne hb ts) hc (sh_dvd_t ht)
def val (b : Int) (ts : List Int) : List Rat := ts.map fun (t : Int) => ((t : Rat) / (b : Rat))
theorem cross {b b' t t' : Int} (hb : b ≠ 0) (hb' : b' ≠ 0) (h : (t : Rat) / b = (t' : Rat) / b') : t * b' = t' * b := by
  have h1 : (b : Rat) ≠ 0 := fun z => hb (Rat.intCast_inj.mp (by simpa using z))
  have h2 : (b' : Rat) ≠ 0 := fun z => hb' (Rat.intCast_inj.mp (by simpa using z))
  have h3 : (t : Rat) * b' = t' * b := by grind
  exact Rat.intCast_inj.mp (by simpa [Rat.intCast_mul] using h3)
theorem crossL {b b' : Int} (hb : b ≠ 0) (hb' : b' ≠ 0) : ∀ (ts ts' : List Int), val b ts = val b' ts' → ts.map (· * b') = ts'.map (· * b)
  | [], [], _ => rfl
  | [], _ :: _, h => by simp [val] at h
  | _ :: _, [], h => by simp [val] at h
  | t :: ts, t' :: ts', h => by
    simp only [val, List.map_cons, List.cons.injEq] at h ⊢
    exact ⟨cross hb hb' h.1, crossL hb hb' ts ts' h.2⟩
theorem nf_val {b b' : Int} {ts ts' : List Int} (hb : b ≠ 0) (hb' : b' ≠ 0) (h : val b ts = val b' ts') : nfB b ts = nfB b' ts' ∧ nfT b ts = nfT b' ts' := by
  have e := crossL hb hb' ts ts' h
  have h1 := nf_mul hb hb' ts
  have h2 := nf_mul hb' hb ts'
  rw [e, Int.mul_comm b b'] at h1
  exact ⟨h1.1.symm.trans h2.1, h1.2.symm.trans h2.2⟩
theorem ne_rat {b : Int} (h : b ≠ 0) : (b : Rat) ≠ 0 := fun z => h (Rat.intCast_inj.mp (by simpa using z))
theorem div_exact {t s : Int} (hs : s ≠ 0) (h : s ∣ t) : ((t / s : Int) : Rat) = (t : Rat) / s := by
  obtain ⟨k, rfl⟩ := h
  rw [Int.mul_ediv_cancel_left _ hs, Rat.intCast_mul]
  have := ne_rat hs
  grind
theorem nfB_pos {b : Int} (hb : b ≠ 0) (ts : List Int) : 0 < nfB b ts := by
  obtain ⟨k, hk⟩ := G_dvd_b b ts
  have hG : 0 < (G b ts : Int) := Int.natCast_pos.mpr (G_pos hb ts)
  unfold nfB sh
  split
  · rename_i h
    have e : b = -(G b ts : Int) * (-k) := by rw [Int.neg_mul_neg]; exact hk
    have : b / -(G b ts : Int) = -k := by
      conv => lhs; lhs; rw [e]
      exact Int.mul_ediv_cancel_left _ (by omega)
    rw [this]
    have h2 : (G b ts : Int) * k < 0 := by rw [← hk]; exact h
    have : ¬ 0 ≤ k := fun z => absurd (Int.mul_nonneg (Int.le_of_lt hG) z) (by omega)
    omega
  · rename_i h
    have : b / (G b ts : Int) = k := by
      conv => lhs; lhs; rw [hk]
      exact Int.mul_ediv_cancel_left _ (by omega)
    rw [this]
    have h2 : 0 < (G b ts : Int) * k := by rw [← hk]; omega
    have : ¬ k ≤ 0 := fun z => absurd (Int.mul_nonpos_of_nonneg_of_nonpos (Int.le_of_lt hG) z) (by omega)
    omega
theorem val_nf {b : Int} (hb : b ≠ 0) (ts : List Int) : val (nfB b ts) (nfT b ts) = val b ts := by
  unfold val nfT nfB
  rw [List.map_map]
  refine List.map_congr_left fun t ht => ?_
  have hs := sh_ne hb ts
  have h1 := ne_rat hs
  have h2 := ne_rat hb
  show ((t / sh b ts : Int) : Rat) / ((b / sh b ts : Int) : Rat) = _
  rw [div_exact hs (sh_dvd_t ht), div_exact hs (sh_dvd_b b ts)]
  grind
def den : List Rat → Int
  | [] => 1
  | q :: v => q.den * den v
theorem den_pos : ∀ v : List Rat, 0 < den v
  | [] => by decide
  | q :: v => Int.mul_pos (Int.natCast_pos.mpr q.den_pos) (den_pos v)
theorem den_dvd : ∀ (v : List Rat) (q : Rat), q ∈ v → (q.den : Int) ∣ den v
  | q :: v, p, h => by
    rcases List.mem_cons.mp h with rfl | h
    · exact Int.dvd_mul_right ..
    · exact Int.dvd_trans (den_dvd v p h) (Int.dvd_mul_left ..)
theorem num_div_den (q : Rat) : (q.num : Rat) / ((q.den : Int) : Rat) = q := by
  rw [← Rat.divInt_eq_div]
  exact Rat.num_divInt_den q
def tops (v : List Rat) : List Int := v.map fun q => q.num * (den v / q.den)
theorem val_tops (v : List Rat) : val (den v) (tops v) = v := by
  unfold val tops
  rw [List.map_map]
  conv => rhs; rw [← List.map_id v]
  refine List.map_congr_left fun q hq => ?_
  have hd : (q.den : Int) ≠ 0 := Int.ne_of_gt (Int.natCast_pos.mpr q.den_pos)
  have h1 := ne_rat hd
  have h2 := ne_rat (Int.ne_of_gt (den_pos v))
  show ((q.num * (den v / q.den) : Int) : Rat) / _ = q
  rw [Rat.intCast_mul, div_exact hd (den_dvd v q hq)]
  have h3 : (q.num : Rat) / ((q.den : Int) : Rat) = q := by
    exact num_div_den q
  grind
def B (v : List Rat) : Int := nfB (den v) (tops v)
def T (v : List Rat) : List Int := nfT (den v) (tops v)
theorem nf_BT {b : Int} (hb : b ≠ 0) (ts : List Int) : nfB b ts = B (val b ts) ∧ nfT b ts = T (val b ts) :=
  nf_val hb (Int.ne_of_gt (den_pos _)) (val_tops (val b ts)).symm
theorem B_pos (v : List Rat) : 0 < B v := nfB_pos (Int.ne_of_gt (den_pos v)) _
theorem val_BT (v : List Rat) : val (B v) (T v) = v := (val_nf (Int.ne_of_gt (den_pos v)) _).trans (val_tops v)
theorem T_length (v : List Rat) : (T v).length = v.length := by simp [T, nfT, tops]
theorem nf_one {t b : Int} (hb : b ≠ 0) : t / sh b [t] = ((t : Rat) / b).num ∧ b / sh b [t] = ((t : Rat) / b).den := by
  have hd : ((((t : Rat) / b).den : Nat) : Int) ≠ 0 := Int.ne_of_gt (Int.natCast_pos.mpr (Rat.den_pos _))
  have e : val b [t] = val (((t : Rat) / b).den : Nat) [((t : Rat) / b).num] := by
    simp only [val, List.map_cons, List.map_nil, List.cons.injEq, and_true]
    exact (num_div_den _).symm
  obtain ⟨h1, h2⟩ := nf_val hb hd e
  have g1 : sh (((t : Rat) / b).den : Nat) [((t : Rat) / b).num] = 1 := by
    have hr := ((t : Rat) / b).reduced
    unfold sh G
    rw [if_neg (by omega)]
    show ((Nat.gcd (Int.natAbs (((t : Rat) / b).den : Nat)) ((t : Rat) / b).num.natAbs : Nat) : Int) = 1
    rw [Int.natAbs_natCast, Nat.gcd_comm, Nat.Coprime.gcd_eq_one hr]
    rfl
  unfold nfB at h1
  unfold nfT at h2
  rw [g1] at h1
  rw [g1] at h2
  simp only [List.map_cons, List.map_nil, List.cons.injEq, and_true, Int.ediv_one] at h2
  rw [Int.ediv_one] at h1
  exact ⟨h2, h1⟩
theorem div_le {t s : Int} (hs : s ≠ 0) (h : s ∣ t) : (t / s).natAbs ≤ t.natAbs := by
  obtain ⟨k, rfl⟩ := h
  rw [Int.mul_ediv_cancel_left _ hs, Int.natAbs_mul]
  have : 0 < s.natAbs := Int.natAbs_pos.mpr hs
  exact Nat.le_mul_of_pos_left _ this
theorem nfB_le {b : Int} (hb : b ≠ 0) (ts : List Int) : (nfB b ts).natAbs ≤ b.natAbs := div_le (sh_ne hb ts) (sh_dvd_b b ts)
end Ln

namespace Dx
open PySem PySem.Spec PyProof.Rows L2

def Es {α : Type} (f : LSt → Res α) (l : LSt) (a : α) (l' : LSt) : Prop := f l = .ok a l'
def Ss (f : LSt → Fl) (l : LSt) (r : Fl) : Prop := f l = r
section
variable {l l1 l2 l3 : LSt} {i n j : Nat} {d x y z : D} {ds es : List D} {g : D → D → Option D} {u : D → Option D} {v : List D → Option D} {a b e : LSt → Res D} {r : LSt → Res (List D)} {t t2 : LSt → Res Bool} {co : CO} {fo : LSt → Res CO} {k k2 : Bool}
theorem Es.c : Es (sC d) l d l := rfl
theorem Es.var (h : l.sl[i]? = some (.v d)) : Es (sVar i) l d l := by
  unfold Es sVar
  rw [h]
theorem Es.bin (ha : Es a l x l1) (hb : Es b l1 y l2) (hg : g x y = some z) : Es (sBin g a b) l z l2 := by
  unfold Es at *
  simp only [sBin, ha, hb, Res.bind, opt, hg]
theorem Es.un (ha : Es a l x l1) (hg : u x = some z) : Es (sUn u a) l z l1 := by
  unfold Es at *
  simp only [sUn, ha, Res.bind, opt, hg]
theorem Es.nil : Es sNil l [] l := rfl
theorem Es.cons (ha : Es a l x l1) (hr : Es r l1 ds l2) : Es (sCons a r) l (x :: ds) l2 := by
  unfold Es at *
  simp only [sCons, ha, hr, Res.bind]
theorem Es.blt (ha : Es r l ds l1) (hg : v ds = some z) : Es (sBlt v r) l z l1 := by
  unfold Es at *
  simp only [sBlt, ha, Res.bind, opt, hg]
theorem Es.tup (ha : Es r l ds l1) (h : ds.length ≤ szL) : Es (sTup r) l (.tup ds) l1 := by
  unfold Es at *
  simp only [sTup, ha, Res.bind, h, if_true]
theorem Es.lst (ha : Es r l ds l1) (h : ds.length ≤ szL) : Es (sLst r) l (.lst ds) l1 := by
  unfold Es at *
  simp only [sLst, ha, Res.bind, h, if_true]
theorem Es.frz (ha : Es fo l co l1) : Es (sFrz fo) l co.d l1 := by
  unfold Es at *
  simp only [sFrz, ha, Res.bind]
theorem Es.lstOfL (ha : Es a l (.lst ds) l1) : Es (sLstOf a) l (.lst ds) l1 := by
  unfold Es at *
  simp only [sLstOf, ha, Res.bind]
theorem Es.lstOfT (ha : Es a l (.tup ds) l1) : Es (sLstOf a) l (.lst ds) l1 := by
  unfold Es at *
  simp only [sLstOf, ha, Res.bind]
theorem Es.tst (ha : Es a l (.bl k) l1) : Es (sTst a) l k l1 := by
  unfold Es at *
  simp only [sTst, ha, Res.bind, opt, blD]
theorem Es.tru (ha : Es a l x l1) (h : truD x = some k) : Es (sTru a) l k l1 := by
  unfold Es at *
  simp only [sTru, ha, Res.bind, opt, h]
theorem Es.nt (ha : Es t l k l1) : Es (sNot t) l (!k) l1 := by
  unfold Es at *
  simp only [sNot, ha, Res.bind]
theorem Es.orT (ha : Es t l k l1) (h : k = true) : Es (sOr t t2) l true l1 := by
  subst h
  unfold Es at *
  simp only [sOr, ha, Res.bind, if_true]
theorem Es.orF (ha : Es t l k l1) (h : k = false) (hb : Es t2 l1 k2 l2) : Es (sOr t t2) l k2 l2 := by
  subst h
  unfold Es at *
  simp only [sOr, ha, Res.bind, Bool.false_eq_true, if_false]
  exact hb
theorem Es.andF (ha : Es t l k l1) (h : k = false) : Es (sAnd t t2) l false l1 := by
  subst h
  unfold Es at *
  simp only [sAnd, ha, Res.bind, Bool.false_eq_true, if_false]
theorem Es.andT (ha : Es t l k l1) (h : k = true) (hb : Es t2 l1 k2 l2) : Es (sAnd t t2) l k2 l2 := by
  subst h
  unfold Es at *
  simp only [sAnd, ha, Res.bind, if_true]
  exact hb
theorem Es.ifT {α : Type} {p q : LSt → Res α} {w : α} (ha : Es t l k l1) (h : k = true) (hb : Es p l1 w l2) : Es (sIf t p q) l w l2 := by
  subst h
  unfold Es at *
  simp only [sIf, ha, Res.bind, if_true]
  exact hb
theorem Es.ifF {α : Type} {p q : LSt → Res α} {w : α} (ha : Es t l k l1) (h : k = false) (hb : Es q l1 w l2) : Es (sIf t p q) l w l2 := by
  subst h
  unfold Es at *
  simp only [sIf, ha, Res.bind, Bool.false_eq_true, if_false]
  exact hb
theorem Es.call {m : Fm} {ev : EV} {g' : G} (ha : Es r l ds l1) (hm : m ds l1.g = .ok ev g') : Es (sCall m r) l ev.d (l1.withG g') := by
  unfold Es at *
  simp only [sCall, ha, Res.bind, hm]
theorem Es.callP {m : Fm} {ev : EV} {sl sl1 : List Slot} {g g1 : G} (ha : Es r ⟨sl, g⟩ ds ⟨sl1, g1⟩) (hm : ∀ g, m ds g = .ok ev g) : Es (sCall m r) ⟨sl, g⟩ ev.d ⟨sl1, g1⟩ := by
  have := Es.call ha (hm g1)
  exact this
theorem Es.callK {m : Fm} {ev : EV} {r2 : LSt → Res (List D)} {sl sl1 sl2 : List Slot} {g g1 g2 : G} (ha : Es r ⟨sl, g⟩ ds ⟨sl1, g1⟩) (hb : Es r2 ⟨sl1, g1⟩ es ⟨sl2, g2⟩) (hl : ds.length = n ∧ es.length = j) (hm : ∀ g, m (ds ++ es) g = .ok ev g) : Es (sCallK n j m r r2) ⟨sl, g⟩ ev.d ⟨sl2, g2⟩ := by
  unfold Es at *
  simp only [sCallK, ha, hb, Res.bind, hl, and_self, if_true, hm, frRes]
  rfl
theorem Es.mth {m : Fm} {ev : EV} {tb : Nat → Option Fm} {ff : List D} {sl sl1 sl2 : List Slot} {g g1 g2 : G} (ho : Es a ⟨sl, g⟩ (.ins n ff) ⟨sl1, g1⟩) (ht : tb n = some m) (ha : Es r ⟨sl1, g1⟩ ds ⟨sl2, g2⟩) (hm : ∀ g, m (.ins n ff :: ds) g = .ok ev g) : Es (sMth tb a r) ⟨sl, g⟩ ev.d ⟨sl2, g2⟩ := by
  unfold Es at *
  simp only [sMth, ho, ha, ht, Res.bind, hm, frRes]
  rfl
theorem Es.prp {m : Fm} {ev : EV} {tb : Nat → Option Fm} {ff : List D} {sl sl1 : List Slot} {g g1 : G} (ho : Es a ⟨sl, g⟩ (.ins n ff) ⟨sl1, g1⟩) (ht : tb n = some m) (hm : ∀ g, m [.ins n ff] g = .ok ev g) : Es (sPrp tb a) ⟨sl, g⟩ ev.d ⟨sl1, g1⟩ := by
  unfold Es at *
  simp only [sPrp, ho, ht, Res.bind, hm]
  rfl
theorem Es.callV {m : Fm} {sl sl1 : List Slot} {g g1 : G} (ha : Es r ⟨sl, g⟩ ds ⟨sl1, g1⟩) (hm : ∀ g, m ds g = .ok (.v d) g) : Es (sCall m r) ⟨sl, g⟩ d ⟨sl1, g1⟩ := Es.callP ha hm
theorem Es.callKV {m : Fm} {r2 : LSt → Res (List D)} {sl sl1 sl2 : List Slot} {g g1 g2 : G} (ha : Es r ⟨sl, g⟩ ds ⟨sl1, g1⟩) (hb : Es r2 ⟨sl1, g1⟩ es ⟨sl2, g2⟩) (hl : ds.length = n ∧ es.length = j) (hm : ∀ g, m (ds ++ es) g = .ok (.v d) g) : Es (sCallK n j m r r2) ⟨sl, g⟩ d ⟨sl2, g2⟩ := Es.callK ha hb hl hm
theorem Es.mthV {m : Fm} {tb : Nat → Option Fm} {ff : List D} {sl sl1 sl2 : List Slot} {g g1 g2 : G} (ho : Es a ⟨sl, g⟩ (.ins n ff) ⟨sl1, g1⟩) (ht : tb n = some m) (ha : Es r ⟨sl1, g1⟩ ds ⟨sl2, g2⟩) (hm : ∀ g, m (.ins n ff :: ds) g = .ok (.v d) g) : Es (sMth tb a r) ⟨sl, g⟩ d ⟨sl2, g2⟩ := Es.mth ho ht ha hm
theorem Es.prpV {m : Fm} {tb : Nat → Option Fm} {ff : List D} {sl sl1 : List Slot} {g g1 : G} (ho : Es a ⟨sl, g⟩ (.ins n ff) ⟨sl1, g1⟩) (ht : tb n = some m) (hm : ∀ g, m [.ins n ff] g = .ok (.v d) g) : Es (sPrp tb a) ⟨sl, g⟩ d ⟨sl1, g1⟩ := Es.prp ho ht hm
theorem Es.attr {tb : Nat → Option Nat} {ff : List D} (ho : Es a l (.ins n ff) l1) (ht : tb n = some j) (hf : ff[j]? = some d) : Es (sAttr tb a) l d l1 := by
  unfold Es at *
  simp only [sAttr, ho, Res.bind, fldD, ht, Option.bind, hf, opt]
theorem Es.chain {g' : D → D → Option D} {w : D} {c3 : LSt → Res D} (ha : Es a l x l1) (hb : Es b l1 y l2) (h1 : g x y = some (.bl true)) (hc : Es c3 l2 w l3) (h2 : g' y w = some z) : Es (sChain g g' a b c3) l z l3 := by
  unfold Es at *
  simp only [sChain, ha, hb, hc, Res.bind, opt, h1, h2]
theorem Es.andVT (ha : Es a l (.bl k) l1) (h : k = true) (hb : Es b l1 y l2) : Es (sAndV a b) l y l2 := by
  subst h
  unfold Es at *
  simp only [sAndV, ha, Res.bind]
  exact hb
theorem Es.andVF (ha : Es a l (.bl k) l1) (h : k = false) : Es (sAndV a b) l (.bl false) l1 := by
  subst h
  unfold Es at *
  simp only [sAndV, ha, Res.bind]
theorem Es.orVT (ha : Es a l (.bl k) l1) (h : k = true) : Es (sOrV a b) l (.bl true) l1 := by
  subst h
  unfold Es at *
  simp only [sOrV, ha, Res.bind]
theorem Es.orVF (ha : Es a l (.bl k) l1) (h : k = false) (hb : Es b l1 y l2) : Es (sOrV a b) l y l2 := by
  subst h
  unfold Es at *
  simp only [sOrV, ha, Res.bind]
  exact hb
theorem Es.walk {w : List D → Option (List D)} (ha : Es r l ds l1) (hw : w ds = some es) : Es (sWalk w r) l es l1 := by
  unfold Es at *
  simp only [sWalk, ha, Res.bind, hw, opt]
theorem Es.items (ha : Es a l d l1) (hw : seqD d = some es) : Es (sItems a) l es l1 := by
  unfold Es at *
  simp only [sItems, ha, Res.bind, hw, opt]
theorem Es.varO {sl : List Slot} {g : G} {sl2 : List Slot} (h : sl[i]? = some (.own co)) (hs : sl.set i (.v co.d) = sl2) : Es (sVar i) ⟨sl, g⟩ co.d ⟨sl2, g⟩ := by
  unfold Es sVar
  simp only [h, LSt.put, hs]
theorem comp_mapB {β : Type} {tg : Tgt} {vs : List Nat} (it ψ : β → D) (l0 : LSt) : ∀ (bs : List β) (acc : List D), (∀ b ∈ bs, ∃ l1 l2, tg (it b) l0 = some l1 ∧ Es e l1 (ψ b) l2 ∧ l2.wipeL vs = l0) → acc.length + bs.length ≤ szL → compLoop tg sYes e vs (bs.map it) acc l0 = .ok (.lst (acc ++ bs.map ψ)) l0
  | [], acc, _, _ => by
    show compLoop tg sYes e vs [] acc l0 = _
    unfold compLoop
    rw [List.map_nil, List.append_nil]
  | b :: bs, acc, h, hz => by
    obtain ⟨l1, l2, e1, e2, e3⟩ := h b List.mem_cons_self
    unfold Es at e2
    show compLoop tg sYes e vs (it b :: bs.map it) acc l0 = _
    unfold compLoop
    simp only [e1, e2, e3, sYes]
    rw [List.length_cons] at hz
    rw [if_pos (by omega), comp_mapB it ψ l0 bs (acc ++ [ψ b]) (fun d' hd' => h d' (List.mem_cons_of_mem _ hd')) (by rw [List.length_append, List.length_singleton]; omega)]
    rw [List.append_assoc]
    rfl
theorem Es.compB {β : Type} {tg : Tgt} {vs : List Nat} {f : LSt → Res (List D)} (it ψ : β → D) {bs : List β} (hf : Es f l (bs.map it) l1) (hl : l1.wipeL vs = l2) (hz : bs.length ≤ szL) (h : ∀ b ∈ bs, ∃ l3 l4, tg (it b) l2 = some l3 ∧ Es e l3 (ψ b) l4 ∧ l4.wipeL vs = l2) : Es (sComp f tg sYes e vs) l (.lst (bs.map ψ)) l2 := by
  unfold Es at hf ⊢
  simp only [sComp, hf, Res.bind, hl]
  exact comp_mapB it ψ l2 bs [] h (by simpa using hz)
theorem comp_filB {β : Type} {tg : Tgt} {tt : LSt → Res Bool} {vs : List Nat} (it ψ : β → D) (χ : β → Bool) (l0 : LSt) : ∀ (bs : List β) (acc : List D), (∀ b ∈ bs, ∃ l1 l2, tg (it b) l0 = some l1 ∧ Es tt l1 (χ b) l2 ∧ (χ b = true → ∃ l3, Es e l2 (ψ b) l3 ∧ l3.wipeL vs = l0) ∧ (χ b = false → l2.wipeL vs = l0)) → acc.length + bs.length ≤ szL → compLoop tg tt e vs (bs.map it) acc l0 = .ok (.lst (acc ++ (bs.filter χ).map ψ)) l0
  | [], acc, _, _ => by
    show compLoop tg tt e vs [] acc l0 = _
    unfold compLoop
    rw [List.filter_nil, List.map_nil, List.append_nil]
  | b :: bs, acc, h, hz => by
    obtain ⟨l1, l2, e1, e2, e3, e4⟩ := h b List.mem_cons_self
    unfold Es at e2
    rw [List.length_cons] at hz
    show compLoop tg tt e vs (it b :: bs.map it) acc l0 = _
    cases hχ : χ b with
    | true =>
      obtain ⟨l3, e5, e6⟩ := e3 hχ
      unfold Es at e5
      rw [hχ] at e2
      unfold compLoop
      simp only [e1, e2, e5, e6]
      rw [if_pos (by omega), comp_filB it ψ χ l0 bs (acc ++ [ψ b]) (fun d' hd' => h d' (List.mem_cons_of_mem _ hd')) (by rw [List.length_append, List.length_singleton]; omega), List.filter_cons_of_pos hχ, List.append_assoc]
      rfl
    | false =>
      rw [hχ] at e2
      unfold compLoop
      simp only [e1, e2, e4 hχ]
      rw [comp_filB it ψ χ l0 bs acc (fun d' hd' => h d' (List.mem_cons_of_mem _ hd')) (by omega), List.filter_cons_of_neg (by rw [hχ]; exact Bool.false_ne_true)]
variable {p q : LSt → Fl} {w : Fl} {ev : EV} {sl sl1 sl2 : List Slot} {g1 g2 g3 : G}
theorem Ss.seq (h1 : Ss p l (.nx l1)) (h2 : Ss q l1 w) : Ss (zSeq p q) l w := by
  unfold Ss at *
  simp only [zSeq, h1, Fl.seq]
  exact h2
theorem Ss.seqR (h1 : Ss p l (.rt ev l1)) : Ss (zSeq p q) l (.rt ev l1) := by
  unfold Ss at *
  simp only [zSeq, h1, Fl.seq]
theorem Ss.set (h : Es e ⟨sl, g1⟩ d ⟨sl1, g2⟩) (hs : sl1.set i (.v d) = sl2) : Ss (zSet i e) ⟨sl, g1⟩ (.nx ⟨sl2, g2⟩) := by
  unfold Ss Es at *
  simp only [zSet, h, Res.toFl, LSt.put, hs]
theorem Ss.setO (h : Es fo ⟨sl, g1⟩ co ⟨sl1, g2⟩) (hs : sl1.set i (.own co) = sl2) : Ss (zSetO i fo) ⟨sl, g1⟩ (.nx ⟨sl2, g2⟩) := by
  unfold Ss Es at *
  simp only [zSetO, h, Res.toFl, LSt.put, hs]
theorem Ss.drop (h : Es e l d l1) : Ss (zDrop e) l (.nx l1) := by
  unfold Ss Es at *
  simp only [zDrop, h, Res.toFl]
theorem Ss.ret (h : Es e l d l1) : Ss (zRet e) l (.rt (.v d) l1) := by
  unfold Ss Es at *
  simp only [zRet, h, Res.toFl]
theorem Ss.next : Ss zNext l (.nx l) := rfl
theorem Ss.ifT (ha : Es t l k l1) (h : k = true) (hb : Ss p l1 w) : Ss (zIf t p q) l w := by
  subst h
  unfold Ss Es at *
  simp only [zIf, ha, Res.toFl, if_true]
  exact hb
theorem Ss.ifF (ha : Es t l k l1) (h : k = false) (hb : Ss q l1 w) : Ss (zIf t p q) l w := by
  subst h
  unfold Ss Es at *
  simp only [zIf, ha, Res.toFl, Bool.false_eq_true, if_false]
  exact hb
theorem Ss.asg {tg : Tgt} (h : Es e l d l1) (ht : tg d l1 = some l2) : Ss (zAsg e tg) l (.nx l2) := by
  unfold Ss Es at *
  simp only [zAsg, h, Res.toFl, ht, optF]
theorem Ss.forI {f : LSt → Res (List D)} {tg : Tgt} (h : Es f l ds l1) (hl : zFor tg p ds l1 = .nx l2) : Ss (zForI f tg p) l (.nx l2) := by
  unfold Ss Es at *
  simp only [zForI, h, Res.toFl]
  exact hl
theorem Ss.self {tb : Nat → Option Nat} {fs fs2 : List (Option D)} {dd : Option (Int × Int × Int)} (h : Es e l d ⟨sl1, ⟨dd, some (n, fs)⟩⟩) (hi : sl1[i]? = some .slf) (ht : tb n = some j) (hp : putO j d fs = fs2) : Ss (zSelf i tb e) l (.nx ⟨sl1, ⟨dd, some (n, fs2)⟩⟩) := by
  unfold Ss Es at *
  simp only [zSelf, h, Res.toFl, hi, ht, hp]
theorem for_fold {α : Type} {tg : Tgt} {β : Type} (it : β → D) (st : α → LSt) (f : α → β → α) : ∀ (bs : List β) (x : α), (∀ y b, b ∈ bs → ∃ l1, tg (it b) (st y) = some l1 ∧ p l1 = .nx (st (f y b))) → zFor tg p (bs.map it) (st x) = .nx (st (bs.foldl f x))
  | [], x, _ => rfl
  | b :: bs, x, h => by
    obtain ⟨l1, e1, e2⟩ := h x b List.mem_cons_self
    show zFor tg p (it b :: bs.map it) (st x) = _
    unfold zFor
    simp only [e1, e2]
    exact for_fold it st f bs (f x b) fun y b' hb => h y b' (List.mem_cons_of_mem _ hb)
theorem for_foldI {α : Type} {tg : Tgt} {β : Type} (it : β → D) (st : α → LSt) (f : α → β → α) (Inv : α → Prop) : ∀ (bs : List β) (x : α), Inv x → (∀ y b, Inv y → b ∈ bs → Inv (f y b) ∧ ∃ l1, tg (it b) (st y) = some l1 ∧ p l1 = .nx (st (f y b))) → zFor tg p (bs.map it) (st x) = .nx (st (bs.foldl f x)) ∧ Inv (bs.foldl f x)
  | [], x, hx, _ => ⟨rfl, hx⟩
  | b :: bs, x, hx, h => by
    obtain ⟨hi, l1, e1, e2⟩ := h x b hx List.mem_cons_self
    obtain ⟨h3, h4⟩ := for_foldI it st f Inv bs (f x b) hi fun y b' hy hb => h y b' hy (List.mem_cons_of_mem _ hb)
    refine ⟨?_, h4⟩
    show zFor tg p (it b :: bs.map it) (st x) = _
    unfold zFor
    simp only [e1, e2]
    exact h3
theorem mOf_ok {n k : Nat} {b : LSt → Fl} {ds : List D} {g g' : G} {ev : EV} {sl : List Slot} (hl : ds.length = k) (h : Ss b ⟨ds.map .v ++ List.replicate (n - k) .un, g⟩ (.rt ev ⟨sl, g'⟩)) : mOf n k b ds g = .ok ev g' := by
  unfold Ss at h
  unfold mOf
  rw [if_pos hl, h]
  rfl
theorem mOf_nx {n k : Nat} {b : LSt → Fl} {ds : List D} {g g' : G} {sl : List Slot} (hl : ds.length = k) (h : Ss b ⟨ds.map .v ++ List.replicate (n - k) .un, g⟩ (.nx ⟨sl, g'⟩)) : mOf n k b ds g = .ok (.v .non) g' := by
  unfold Ss at h
  unfold mOf
  rw [if_pos hl, h]
  rfl
theorem mOfI_nx {n k : Nat} {b : LSt → Fl} {ds : List D} {g g' : G} {sl : List Slot} (hl : ds.length + 1 = k) (h : Ss b ⟨.slf :: ds.map .v ++ List.replicate (n - k) .un, g⟩ (.nx ⟨sl, g'⟩)) : mOfI n k b ds g = .ok (.v .non) g' := by
  unfold Ss at h
  unfold mOfI
  rw [if_pos hl, h]
  rfl
theorem mk_ok {n : Nat} {mi : Fm} {ds : List D} {g : G} {f : Option D} {fs : List (Option D)} {fs' : List D} (h : mi ds ⟨g.d, some (n, [])⟩ = .ok (.v .non) ⟨g.d, some (n, f :: fs)⟩) (ha : allS (f :: fs) = some fs') : mkC n mi ds g = .ok (.v (.ins n fs')) g := by
  unfold mkC
  rw [show ({ g with ob := some (n, []) } : G) = ⟨g.d, some (n, [])⟩ from rfl, h]
  simp only [ha, if_true]
end
def Sz (i : Int) : Prop := i.natAbs < 2 ^ 8000
theorem Sz.bits {i : Int} (h : Sz i) : Builtin.Int.intBits i ≤ 8000 := by
  unfold Builtin.Int.intBits
  split
  · omega
  · rename_i hz
    have z' : i.natAbs ≠ 0 := fun q => hz (by simp [Int.natAbs_eq_zero.mp q])
    have : i.natAbs.log2 < 8000 := (Nat.log2_lt z').mpr h
    omega
theorem Sz.mul {i j : Int} (h : Sz i) (k : Sz j) : mulOkB i j = true := by
  have h1 := h.bits
  have h2 := k.bits
  unfold mulOkB
  rw [decide_eq_false (p := Builtin.Int.intBits i + Builtin.Int.intBits j > 134217728) (by omega)]
  simp
theorem eqX_int (b c : Int) : eqX (.int b) (.int c) = some (.bl (decide (b = c))) := by
  unfold eqX
  rw [show (!isFlat (.int b)) = false from rfl, Bool.and_false]
  rfl
theorem neD_int (b c : Int) : neD (.int b) (.int c) = some (.bl (!decide (b = c))) := rfl
theorem mulD_ok {i j : Int} (h : mulOkB i j = true) : mulD (.int i) (.int j) = some (.int (i * j)) := by
  show (if mulOkB i j = true then some (D.int (i * j)) else none) = _
  rw [if_pos h]
theorem divD_ok {i j : Int} (h : j ≠ 0) (hz : Sz j) (hd : j ∣ i) : divD (.int i) (.int j) = some (.int (i / j)) := by
  have h9 : j.natAbs.log2 < 9000 := by
    have : j.natAbs.log2 < 8000 := (Nat.log2_lt (by omega)).mpr hz
    omega
  show (if 0 < j ∧ j.natAbs.log2 < 9000 then some (D.int (i / j)) else if j ≠ 0 ∧ j.natAbs.log2 < 9000 then some (.int (i.fdiv j)) else none) = _
  split
  · rfl
  · rw [if_pos ⟨h, h9⟩, Int.fdiv_eq_ediv_of_dvd hd]
theorem modD_pos {i j : Int} (h : 0 < j) : modD (.int i) (.int j) = some (.int (i % j)) := if_pos h
theorem rng1_nat {n : Nat} (h : n < 2 ^ 61) : rng1D [.int (n : Nat)] = some ((List.range n).map fun i => D.int (0 + (i : Nat))) := by
  show (if (n : Int).natAbs < 2 ^ 61 then some (rangeD 0 (n : Int).toNat) else none) = _
  rw [Int.natAbs_natCast, if_pos h, Int.toNat_natCast]
  rfl
theorem sz_small {x : Int} (h : x.natAbs < 2 ^ 64) : Sz x := Nat.lt_of_lt_of_le h (Nat.pow_le_pow_right (by decide) (by decide))
end Dx

namespace Cv
open Lean.Grind
section
variable {α : Type} [CommRing α]
def one : Nat → α
  | 0 => 1
  | _ + 1 => 0
end
def mk {α : Type} (n : Nat) (f : Nat → α) : List α := (List.range n).map f
theorem mk_length {α : Type} (n : Nat) (f : Nat → α) : (mk n f).length = n := by simp [mk]
theorem mk_get? {α : Type} {n : Nat} (f : Nat → α) {k : Nat} (h : k < n) : (mk n f)[k]? = some (f k) := by
  unfold mk
  rw [List.getElem?_map, List.getElem?_range h]
  rfl
theorem mk_getD {α : Type} {n : Nat} (f : Nat → α) {k : Nat} (z : α) (h : k < n) : (mk n f).getD k z = f k := by
  simp only [List.getD, mk_get? f h, Option.getD_some]
theorem mk_congr {α : Type} {n : Nat} {f g : Nat → α} (h : ∀ k, k < n → f k = g k) : mk n f = mk n g := List.map_congr_left fun k hk => h k (List.mem_range.mp hk)
theorem mk_self {α : Type} (v : List α) (z : α) : mk v.length (fun k => v.getD k z) = v := by
  apply List.ext_getElem?
  intro k
  by_cases h : k < v.length
  · rw [mk_get? _ h]
    simp [List.getD, List.getElem?_eq_getElem h]
  · rw [List.getElem?_eq_none (by rw [mk_length]; omega), List.getElem?_eq_none (by omega)]
theorem mk_map {α β : Type} (n : Nat) (f : Nat → α) (g : α → β) : (mk n f).map g = mk n fun k => g (f k) := by
  unfold mk
  rw [List.map_map]
  rfl
def co (v : List Rat) (k : Nat) : Rat := v.getD k 0
theorem mk_co (v : List Rat) : mk v.length (co v) = v := mk_self v 0
def it (t : List Int) (k : Nat) : Int := t.getD k 0
theorem it_T (v : List Rat) (k : Nat) : ((it (Ln.T v) k : Int) : Rat) = (Ln.B v : Rat) * co v k := by
  have hB := Ln.ne_rat (Int.ne_of_gt (Ln.B_pos v))
  by_cases h : k < v.length
  · have e : co v k = (it (Ln.T v) k : Rat) / (Ln.B v : Rat) := by
      have e := Ln.val_BT v
      unfold co
      conv => lhs; rw [← e]
      unfold Ln.val it
      simp only [List.getD]
      rw [List.getElem?_map, List.getElem?_eq_getElem (by rw [Ln.T_length]; exact h)]
      rfl
    rw [e]
    grind
  · have e1 : co v k = 0 := by simp [co, List.getD, List.getElem?_eq_none (Nat.not_lt.mp h)]
    have e2 : it (Ln.T v) k = 0 := by simp [it, List.getD, List.getElem?_eq_none (show (Ln.T v).length ≤ k by rw [Ln.T_length]; omega)]
    rw [e1, e2, Rat.intCast_zero, Rat.mul_zero]
def Bq (D : Int) (M : Nat) (q : Rat) : Prop := ∃ t : Int, q = (t : Rat) / (D : Rat) ∧ t.natAbs ≤ M
theorem Bq.mono {D : Int} {M N : Nat} {q : Rat} (h : Bq D M q) (k : M ≤ N) : Bq D N q := let ⟨t, e, h⟩ := h; ⟨t, e, Nat.le_trans h k⟩
def Bz (a b : Nat) (v : List Rat) : Prop := ∃ (D : Int) (M : Nat), 0 < D ∧ D < 2 ^ a ∧ M < 2 ^ b ∧ ∀ q ∈ v, Bq D M q
theorem Bz.mono {a b c d : Nat} {v : List Rat} (h : Bz a b v) (h1 : a ≤ c) (h2 : b ≤ d) : Bz c d v := by
  obtain ⟨D, M, x, y, z, w⟩ := h
  refine ⟨D, M, x, ?_, Nat.lt_of_lt_of_le z (Nat.pow_le_pow_right (by decide) h2), w⟩
  have : (2 : Nat) ^ a ≤ 2 ^ c := Nat.pow_le_pow_right (by decide) h1
  have : (2 : Int) ^ a ≤ 2 ^ c := by exact_mod_cast this
  omega
section
variable {α : Type}
end
end Cv

namespace Dx
open PySem PySem.Spec PyProof.Rows L2
section
variable {l l1 l2 l3 : LSt} {i j : Nat} {d x y z : D} {ds es : List D} {a b e : LSt → Res D} {r : LSt → Res (List D)} {t : LSt → Res Bool} {p : LSt → Fl} {sl sl1 sl2 : List Slot} {g g1 g2 : G} {co : CO} {fo : LSt → Res CO} {w : Fl}
theorem for_ex {tg : Tgt} (Inv : Nat → LSt → Prop) : ∀ (items : List D) (k : Nat) (l : LSt), Inv k l → (∀ i d l, items[i]? = some d → Inv (k + i) l → ∃ l1 l2, tg d l = some l1 ∧ Ss p l1 (.nx l2) ∧ Inv (k + i + 1) l2) → ∃ l', zFor tg p items l = .nx l' ∧ Inv (k + items.length) l'
  | [], k, l, h, _ => ⟨l, rfl, h⟩
  | d :: ds, k, l, h, hs => by
    obtain ⟨l1, l2, e1, e2, e3⟩ := hs 0 d l rfl h
    obtain ⟨l', f1, f2⟩ := for_ex Inv ds (k + 1) l2 e3 fun i d' l hd hi => by
      have := hs (i + 1) d' l (by simpa using hd) (by rw [show k + (i + 1) = k + 1 + i by omega]; exact hi)
      rw [show k + (i + 1) + 1 = k + 1 + i + 1 by omega] at this
      exact this
    refine ⟨l', ?_, by rw [List.length_cons, show k + (ds.length + 1) = k + 1 + ds.length by omega]; exact f2⟩
    unfold Ss at e2
    unfold zFor
    simp only [e1, e2]
    exact f1
theorem Ss.forMk {tg : Tgt} {f : LSt → Res (List D)} {n : Nat} {it : Nat → D} (Inv : Nat → LSt → Prop) (h : Es f l (Cv.mk n it) l1) (h0 : Inv 0 l1) (hs : ∀ i l, i < n → Inv i l → ∃ l2 l3, tg (it i) l = some l2 ∧ Ss p l2 (.nx l3) ∧ Inv (i + 1) l3) : ∃ l', Ss (zForI f tg p) l (.nx l') ∧ Inv n l' := by
  obtain ⟨l', e1, e2⟩ := for_ex (p := p) (tg := tg) Inv (Cv.mk n it) 0 l1 h0 fun i d l hd hi => by
    have hi' : i < n := by
      have := (List.getElem?_eq_some_iff.mp hd).1
      rwa [Cv.mk_length] at this
    rw [Cv.mk_get? _ hi'] at hd
    cases hd
    rw [Nat.zero_add] at hi ⊢
    exact hs i l hi' hi
  rw [Nat.zero_add, Cv.mk_length] at e2
  exact ⟨l', Ss.forI h e1, e2⟩
theorem Es.compF {β : Type} {tg : Tgt} {tt : LSt → Res Bool} {vs : List Nat} {f : LSt → Res (List D)} (it ψ : β → D) (χ : β → Bool) {bs : List β} (hf : Es f l (bs.map it) l1) (hl : l1.wipeL vs = l2) (hz : bs.length ≤ szL) (h : ∀ b ∈ bs, ∃ l3 l4, tg (it b) l2 = some l3 ∧ Es tt l3 (χ b) l4 ∧ (χ b = true → ∃ l5, Es e l4 (ψ b) l5 ∧ l5.wipeL vs = l2) ∧ (χ b = false → l4.wipeL vs = l2)) : Es (sComp f tg tt e vs) l (.lst ((bs.filter χ).map ψ)) l2 := by
  unfold Es at hf ⊢
  simp only [sComp, hf, Res.bind, hl]
  exact comp_filB it ψ χ l2 bs [] h (by simpa using hz)
theorem comp_ex {β τ : Type} {tg : Tgt} {vs : List Nat} (P : β → Prop) (it : β → D) (st : τ → LSt) : ∀ (ds acc : List D) (t : τ), (∀ d ∈ ds, ∀ t, ∃ b t' l1 l2, tg d (st t) = some l1 ∧ Es e l1 (it b) l2 ∧ l2.wipeL vs = st t' ∧ P b) → acc.length + ds.length ≤ szL →
    ∃ (bs : List β) (t' : τ), compLoop tg sYes e vs ds acc (st t) = .ok (.lst (acc ++ bs.map it)) (st t') ∧ bs.length = ds.length ∧ ∀ b ∈ bs, P b
  | [], acc, t, _, _ => ⟨[], t, by
      unfold compLoop
      rw [List.map_nil, List.append_nil], rfl, fun _ h => by cases h⟩
  | d :: ds, acc, t, h, hz => by
    obtain ⟨b, t', l1, l2, e1, e2, e3, e4⟩ := h d List.mem_cons_self t
    unfold Es at e2
    rw [List.length_cons] at hz
    obtain ⟨bs, t2, f1, f2, f3⟩ := comp_ex P it st ds (acc ++ [it b]) t' (fun d' hd' => h d' (List.mem_cons_of_mem _ hd')) (by rw [List.length_append, List.length_singleton]; omega)
    refine ⟨b :: bs, t2, ?_, by rw [List.length_cons, List.length_cons, f2], fun c hc => ?_⟩
    · unfold compLoop
      simp only [e1, e2, e3, sYes]
      rw [if_pos (by omega), f1, List.append_assoc]
      rfl
    · rcases List.mem_cons.mp hc with rfl | hc
      · exact e4
      · exact f3 c hc
theorem Es.compX {β τ : Type} {tg : Tgt} {vs : List Nat} {f : LSt → Res (List D)} (P : β → Prop) (it : β → D) (st : τ → LSt) {t : τ} (hf : Es f l ds l1) (hl : l1.wipeL vs = st t) (h : ∀ d ∈ ds, ∀ t, ∃ b t' l1 l2, tg d (st t) = some l1 ∧ Es e l1 (it b) l2 ∧ l2.wipeL vs = st t' ∧ P b) (hz : ds.length ≤ szL) :
    ∃ (bs : List β) (t' : τ), Es (sComp f tg sYes e vs) l (.lst (bs.map it)) (st t') ∧ bs.length = ds.length ∧ ∀ b ∈ bs, P b := by
  obtain ⟨bs, t', e1, e2, e3⟩ := comp_ex (e := e) P it st ds [] t h (by simpa using hz)
  refine ⟨bs, t', ?_, e2, e3⟩
  unfold Es at *
  simp only [sComp, hf, Res.bind, hl]
  exact e1
theorem enumD_mk (ds : List D) (k : Nat) : enumD k ds = Cv.mk ds.length fun i => .tup [.int ((k + i : Nat) : Int), ds.getD i .non] := by
  apply List.ext_getElem?
  intro i
  by_cases h : i < ds.length
  · rw [Cv.mk_get? _ h]
    cases e : (enumD k ds)[i]? with
    | none =>
      have := List.getElem?_eq_none_iff.mp e
      rw [enumD_length] at this
      omega
    | some d =>
      obtain ⟨x, hx, rfl⟩ := enumD_get _ _ _ _ e
      simp [List.getD, hx]
  · rw [List.getElem?_eq_none (by rw [enumD_length]; omega), List.getElem?_eq_none (by rw [Cv.mk_length]; omega)]
theorem rng1_mk {n : Nat} (h : n < 2 ^ 60) : rng1D [.int (n : Nat)] = some (Cv.mk n fun i => D.int ((i : Nat) : Int)) := by
  rw [rng1_nat (by omega)]
  congr 1
  exact List.map_congr_left fun i _ => by rw [Int.zero_add]
end
end Dx

namespace Cv
def nq (k : Nat) : Rat := ((k : Int) : Rat)
def D (f : Nat → Rat) (k : Nat) : Rat := nq (k + 1) * f (k + 1)
end Cv

namespace K08
open PySem PySem.Spec PyProof.Rows L2 Dx
def ta_own_bottom : Nat → Option Nat := fun n => match n with
  | 0 => some 0
  | 1 => some 0
  | 3 => some 0
  | _ => none
def ta_own_entries : Nat → Option Nat := fun n => match n with
  | 3 => some 1
  | _ => none
def ta_own_line : Nat → Option Nat := fun n => match n with
  | 2 => some 0
  | _ => none
def ta_own_modulus : Nat → Option Nat := fun n => match n with
  | 3 => some 2
  | _ => none
def ta_own_order : Nat → Option Nat := fun n => match n with
  | 3 => some 3
  | _ => none
def ta_own_top : Nat → Option Nat := fun n => match n with
  | 0 => some 1
  | 1 => some 1
  | _ => none
def ta_own_tops : Nat → Option Nat := fun n => match n with
  | 3 => some 4
  | _ => none
def xmT : Nat → Nat → Option Bool := fun n m => match n, m with
  | 6, 8 => some false
  | 7, 8 => some false
  | 8, 8 => some true
  | 10, 8 => some false
  | _, _ => none
def tkT : Nat → Bool := fun n => match n with
  | 0 => true
  | 1 => true
  | 2 => true
  | 3 => true
  | _ => false
def b__law_dice : LSt → Fl := (zSeq (zSet 2 (sIf (sTst (sBin ltD (sVar 1) (sBlt lenD (sCons (sVar 0) sNil)))) (sBlt intD (sCons (sBin ixD (sVar 0) (sVar 1)) sNil)) (sBin addD (sBin mulD (sC (.int (71))) (sVar 1)) (sC (.int (23))))))
    (zSeq (zSet 3 (sBin modD (sBlt maxD (sCons (sC (.int (0))) (sCons (sBin subD (sBlt absD (sCons (sVar 2) sNil)) (sBin powD (sC (.int (10))) (sC (.int (17))))) sNil))) (sBin mulD (sBin powD (sC (.int (10))) (sC (.int (60)))) (sBin powD (sC (.int (10))) (sC (.int (57)))))))
    (zRetO (sLst (sCons (sVar 3) (sCons (sBin addD (sBin addD (sBin addD (sBin mulD (sBin modD (sBlt absD (sCons (sVar 2) sNil)) (sC (.int (1152921504606846803)))) (sC (.int (59)))) (sBin mulD (sC (.int (877))) (sVar 1))) (sBin mulD (sC (.int (47))) (sBlt intD (sCons (sBin ltD (sVar 2) (sC (.int (0)))) sNil)))) (sC (.int (5)))) (sCons (sC (.int (0))) sNil)))))))
def m__law_dice : Fm := mOf 4 2 b__law_dice
def b__law_roll : LSt → Fl := (zSeq (zIf (sTst (sBin gtD (sDie 0 0) (sC (.int (0))))) (zSeq (zSet 2 (sBin modD (sBlt intD (sCons (sDie 0 0) sNil)) (sVar 1)))
    (zSeq (zDie 0 0 (sBin divD (sDie 0 0) (sVar 1)))
    (zRet (sVar 2)))) zNext)
    (zSeq (zDie 0 2 (sBin addD (sDie 0 2) (sC (.int (1)))))
    (zSeq (zSet 3 (sBin modD (sBlt intD (sCons (sBin addD (sDie 0 1) (sBin mulD (sC (.int (86028157))) (sDie 0 2))) sNil)) (sC (.int (2305843009213693613)))))
    (zSeq (zSet 4 (sBin addD (sBin mulD (sBin modD (sBlt intD (sCons (sBin addD (sBin mulD (sVar 3) (sVar 3)) (sBin mulD (sC (.int (97))) (sDie 0 2))) sNil)) (sC (.int (2305843009213693669)))) (sC (.int (7654321)))) (sVar 3)))
    (zRet (sBin modD (sBlt intD (sCons (sBin divD (sVar 4) (sC (.int (131072)))) sNil)) (sVar 1)))))))
def m__law_roll : Fm := mOf 5 2 b__law_roll
def b__law_pick : LSt → Fl := (zRet (sBin ixD (sVar 1) (sCall m__law_roll (sCons (sVar 0) (sCons (sBlt lenD (sCons (sVar 1) sNil)) sNil)))))
def m__law_pick : Fm := mOf 2 2 b__law_pick
def tj_Ratio : Nat → Option Bool := fun n => match n with
  | 0 => some false
  | 1 => some true
  | 2 => some false
  | 3 => some false
  | _ => none
def b_Ratio___eq__ : LSt → Fl := (zSeq (zIf (sNot (sTru (sUn (isoD tj_Ratio) (sVar 1)))) (zRet (sC (.bl false))) zNext)
    (zRet (sAndV (sBin eqX (sAttr ta_own_top (sVar 0)) (sAttr ta_own_top (sVar 1))) (sBin eqX (sAttr ta_own_bottom (sVar 0)) (sAttr ta_own_bottom (sVar 1))))))
def m_Ratio___eq__ : Fm := mOf 2 2 b_Ratio___eq__
def tj_Row : Nat → Option Bool := fun n => match n with
  | 0 => some false
  | 1 => some false
  | 2 => some false
  | 3 => some true
  | _ => none
def b_Row___eq__ : LSt → Fl := (zSeq (zIf (sOr (sNot (sTru (sUn (isoD tj_Row) (sVar 1)))) (sTst (sBin neD (sAttr ta_own_modulus (sVar 0)) (sAttr ta_own_modulus (sVar 1))))) (zRet (sC (.bl false))) zNext)
    (zRet (sAndV (sBin eqX (sAttr ta_own_tops (sVar 0)) (sAttr ta_own_tops (sVar 1))) (sBin eqX (sAttr ta_own_bottom (sVar 0)) (sAttr ta_own_bottom (sVar 1))))))
def m_Row___eq__ : Fm := mOf 2 2 b_Row___eq__
def teqT : Nat → Option Fm := fun n => match n with
  | 1 => some m_Ratio___eq__
  | 3 => some m_Row___eq__
  | _ => none
def b__law_are_whole : LSt → Fl := (zRet (sBin (eqY teqT tkT) (sFrz (sComp (sItems (sVar 0)) (gSet 1) (sTst (sBin (neY teqT tkT) (sBin ixD (sVar 1) (sC (.int (1)))) (sC (.int (1))))) (sVar 1) [1])) (sFrz (sLst sNil))))
def m__law_are_whole : Fm := mOf 2 1 b__law_are_whole
def b_Ratio_top : LSt → Fl := (zRet (sAttr ta_own_top (sVar 0)))
def m_Ratio_top : Fm := mOf 1 1 b_Ratio_top
def b_Ratio_bottom : LSt → Fl := (zRet (sAttr ta_own_bottom (sVar 0)))
def m_Ratio_bottom : Fm := mOf 1 1 b_Ratio_bottom
def b_Row_entries : LSt → Fl := (zRet (sAttr ta_own_entries (sVar 0)))
def m_Row_entries : Fm := mOf 1 1 b_Row_entries
def tp_bottom : Nat → Option Fm := fun n => match n with
  | 1 => some m_Ratio_bottom
  | _ => none
def tp_entries : Nat → Option Fm := fun n => match n with
  | 3 => some m_Row_entries
  | _ => none
def tp_top : Nat → Option Fm := fun n => match n with
  | 1 => some m_Ratio_top
  | _ => none
def b__law_pairs_of : LSt → Fl := (zRet (sFrz (sComp (sItems (sPrp tp_entries (sVar 0))) (gSet 1) sYes (sTup (sCons (sPrp tp_top (sVar 1)) (sCons (sPrp tp_bottom (sVar 1)) sNil))) [1])))
def m__law_pairs_of : Fm := mOf 2 1 b__law_pairs_of
def b_is_plain : LSt → Fl := (zRet (sAndV (sUn (isiK tkT 0) (sVar 0)) (sUn notD (sUn (isiK tkT 1) (sVar 0)))))
def m_is_plain : Fm := mOf 1 1 b_is_plain
def b_is_short : LSt → Fl := (zRet (sAndV (sCall m_is_plain (sCons (sVar 0) sNil)) (sChain ltD ltD (sUn negD (sC (.int (1000000000000000000000000000000000000000000000000000000000000)))) (sVar 0) (sC (.int (1000000000000000000000000000000000000000000000000000000000000))))))
def m_is_short : Fm := mOf 1 1 b_is_short
def b_Terms_init : LSt → Fl := (zSeq (zSelf 0 ta_own_top (sVar 1))
    (zSelf 0 ta_own_bottom (sVar 2)))
def i_Terms : Fm := mOfI 3 3 b_Terms_init
def b_terms_of : LSt → Fl := (zSeq (zSet 2 (sBlt gcdD (sCons (sVar 0) (sCons (sVar 1) sNil))))
    (zSeq (zIf (sTst (sBin ltD (sVar 1) (sC (.int (0))))) (zSet 2 (sUn negD (sVar 2))) zNext)
    (zRet (sCall (mkC 0 i_Terms) (sCons (sBin divD (sVar 0) (sVar 2)) (sCons (sBin divD (sVar 1) (sVar 2)) sNil))))))
def m_terms_of : Fm := mOf 3 2 b_terms_of
def tj_Terms : Nat → Option Bool := fun n => match n with
  | 0 => some true
  | 1 => some false
  | 2 => some false
  | 3 => some false
  | _ => none
def b_told_terms : LSt → Fl := (zSeq (zIf (sTru (sUn (isoD tj_Terms) (sVar 0))) (zRet (sVar 0)) zNext)
    (zSeq (zIf (sNot (sTru (sCall m_is_short (sCons (sVar 0) sNil)))) (zRaise 10 (sVar 0)) zNext)
    (zSeq (zIf (sOr (sNot (sTru (sCall m_is_short (sCons (sVar 1) sNil)))) (sTst (sBin eqX (sVar 1) (sC (.int (0)))))) (zRaise 10 (sVar 1)) zNext)
    (zRet (sCall m_terms_of (sCons (sVar 0) (sCons (sVar 1) sNil)))))))
def m_told_terms : Fm := mOf 2 2 b_told_terms
def b_Ratio_init : LSt → Fl := (zSeq (zSet 3 (sCall m_told_terms (sCons (sVar 1) (sCons (sVar 2) sNil))))
    (zSeq (zSelf 0 ta_own_top (sAttr ta_own_top (sVar 3)))
    (zSelf 0 ta_own_bottom (sAttr ta_own_bottom (sVar 3)))))
def i_Ratio : Fm := mOfI 4 3 b_Ratio_init
def b_ratio_of : LSt → Fl := (zRet (sCall (mkC 1 (dfl i_Ratio (.int (1)))) (sCons (sCall m_terms_of (sCons (sVar 0) (sCons (sVar 1) sNil))) sNil)))
def m_ratio_of : Fm := mOf 2 2 b_ratio_of
def b_line_of : LSt → Fl := (zSeq (zIf (sTst (sBin gtD (sVar 2) (sC (.int (0))))) (zRet (sTup (sCons (sFrz (sComp (sItems (sVar 0)) (gSet 3) sYes (sBin modD (sVar 3) (sVar 2)) [3])) (sCons (sC (.int (1))) sNil)))) zNext)
    (zSeq (zSet 4 (sVar 1))
    (zSeq (zForI (sItems (sVar 0)) (gSet 3) (zSet 4 (sBlt gcdD (sCons (sVar 4) (sCons (sVar 3) sNil)))))
    (zSeq (zSet 4 (sIf (sTst (sBin ltD (sVar 1) (sC (.int (0))))) (sUn negD (sVar 4)) (sVar 4)))
    (zRet (sIf (sTst (sBin neD (sVar 4) (sC (.int (1))))) (sTup (sCons (sFrz (sComp (sItems (sVar 0)) (gSet 3) sYes (sBin divD (sVar 3) (sVar 4)) [3])) (sCons (sBin divD (sVar 1) (sVar 4)) sNil))) (sTup (sCons (sFrz (sLstOf (sVar 0))) (sCons (sVar 1) sNil)))))))))
def m_line_of : Fm := mOf 5 3 b_line_of
def b_line_of_pairs : LSt → Fl := (zSeq (zSet 1 (sC (.int (1))))
    (zSeq (zForI (sItems (sVar 0)) (gTupD 2 (gsCons (gSet 2) (gsCons (gSet 3) gsNil))) (zSet 1 (sBin divD (sBin mulD (sVar 1) (sVar 3)) (sBlt gcdD (sCons (sVar 1) (sCons (sVar 3) sNil))))))
    (zRet (sCall m_line_of (sCons (sFrz (sComp (sItems (sVar 0)) (gTupD 2 (gsCons (gSet 2) (gsCons (gSet 3) gsNil))) sYes (sBin mulD (sVar 2) (sBin divD (sVar 1) (sVar 3))) [2, 3])) (sCons (sVar 1) (sCons (sC (.int (0))) sNil)))))))
def m_line_of_pairs : Fm := mOf 4 1 b_line_of_pairs
def b_is_integer : LSt → Fl := (zRet (sCall m_is_short (sCons (sVar 0) sNil)))
def m_is_integer : Fm := mOf 1 1 b_is_integer
def b_require_modulus : LSt → Fl := (zIf (sOr (sNot (sTru (sCall m_is_integer (sCons (sVar 0) sNil)))) (sOr (sTst (sBin ltD (sVar 0) (sC (.int (0))))) (sOr (sTst (sBin eqX (sVar 0) (sC (.int (1))))) (sTst (sBin gtD (sVar 0) (sC (.int (10000)))))))) (zRaise0 6) zNext)
def m_require_modulus : Fm := mOf 1 1 b_require_modulus
def b_is_number : LSt → Fl := (zRet (sOrV (sUn (isoD tj_Ratio) (sVar 0)) (sCall m_is_integer (sCons (sVar 0) sNil))))
def m_is_number : Fm := mOf 1 1 b_is_number
def b_number_pair : LSt → Fl := (zRet (sIf (sTru (sUn (isoD tj_Ratio) (sVar 0))) (sTup (sCons (sAttr ta_own_top (sVar 0)) (sCons (sAttr ta_own_bottom (sVar 0)) sNil))) (sTup (sCons (sVar 0) (sCons (sC (.int (1))) sNil)))))
def m_number_pair : Fm := mOf 1 1 b_number_pair
def b_is_number_of : LSt → Fl := (zRet (sOrV (sCall m_is_integer (sCons (sVar 1) sNil)) (sAndV (sBin eqX (sVar 0) (sC (.int (0)))) (sUn (isoD tj_Ratio) (sVar 1)))))
def m_is_number_of : Fm := mOf 2 2 b_is_number_of
def tj_Made : Nat → Option Bool := fun n => match n with
  | 0 => some false
  | 1 => some false
  | 2 => some true
  | 3 => some false
  | _ => none
def b_line_told : LSt → Fl := (zSeq (zIf (sTru (sUn (isoD tj_Made) (sVar 0))) (zRet (sAttr ta_own_line (sVar 0))) zNext)
    (zSeq (zIf (sOr (sNot (sTru (sUn (isiK tkT 3) (sVar 0)))) (sNot (sTst (sChain leD leD (sC (.int (1))) (sBlt lenD (sCons (sVar 0) sNil)) (sBin addD (sC (.int (24))) (sC (.int (1)))))))) (zRaise0 7) zNext)
    (zSeq (zIf (sNot (sTru (sBlt allD (sCons (sFrz (sComp (sItems (sVar 0)) (gSet 2) sYes (sCall m_is_number (sCons (sVar 2) sNil)) [2])) sNil)))) (zRaise0 7) zNext)
    (zSeq (zDrop (sCall m_require_modulus (sCons (sVar 1) sNil)))
    (zSeq (zIf (sNot (sTru (sBlt allD (sCons (sFrz (sComp (sItems (sVar 0)) (gSet 2) sYes (sCall m_is_number_of (sCons (sVar 1) (sCons (sVar 2) sNil))) [2])) sNil)))) (zRaise0 7) zNext)
    (zSeq (zIf (sTst (sBin gtD (sVar 1) (sC (.int (0))))) (zRet (sCall m_line_of (sCons (sFrz (sLstOf (sVar 0))) (sCons (sC (.int (1))) (sCons (sVar 1) sNil))))) zNext)
    (zRet (sCall m_line_of_pairs (sCons (sFrz (sComp (sItems (sVar 0)) (gSet 2) sYes (sCall m_number_pair (sCons (sVar 2) sNil)) [2])) sNil)))))))))
def m_line_told : Fm := mOf 3 2 b_line_told
def b_Row_init : LSt → Fl := (zSeq (zSet 3 (sCall m_line_told (sCons (sVar 1) (sCons (sVar 2) sNil))))
    (zSeq (zAsg (sTup (sCons (sBlt tupD (sCons (sBin ixD (sVar 3) (sC (.int (0)))) sNil)) (sCons (sBin ixD (sVar 3) (sC (.int (1)))) sNil))) (gTupD 2 (gsCons (gSet 4) (gsCons (gSet 5) gsNil))))
    (zSeq (zSelf 0 ta_own_tops (sVar 4))
    (zSeq (zSelf 0 ta_own_bottom (sVar 5))
    (zSeq (zSelf 0 ta_own_modulus (sVar 2))
    (zSeq (zSelf 0 ta_own_order (sUn nextD (sVar 4)))
    (zSelf 0 ta_own_entries (sIf (sTst (sBin gtD (sVar 2) (sC (.int (0))))) (sVar 4) (sBlt tupD (sCons (sFrz (sComp (sItems (sVar 4)) (gSet 6) sYes (sCall m_ratio_of (sCons (sVar 6) (sCons (sVar 5) sNil))) [6])) sNil))))))))))
def i_Row : Fm := mOfI 7 3 b_Row_init
def b__law_rw_made : LSt → Fl := (zRet (sCall (mkC 3 (dfl i_Row (.int (0)))) (sCons (sBlt tupD (sCons (sFrz (sComp (sItems (sVar 0)) (gTupD 2 (gsCons (gSet 1) (gsCons (gSet 2) gsNil))) sYes (sCall (mkC 1 i_Ratio) (sCons (sVar 1) (sCons (sVar 2) sNil))) [1, 2])) sNil)) sNil)))
def m__law_rw_made : Fm := mOf 3 1 b__law_rw_made
def b__law_gcd : LSt → Fl := (zSeq (zPar 0 1 (sCons (sBlt absD (sCons (sVar 0) sNil)) (sCons (sBlt absD (sCons (sVar 1) sNil)) sNil)))
    (zSeq (zWhile (sTst (sBin gtD (sVar 1) (sC (.int (0))))) (zPar 0 1 (sCons (sVar 1) (sCons (sBin modD (sBlt intD (sCons (sVar 0) sNil)) (sVar 1)) sNil))) 20000)
    (zRet (sVar 0))))
def m__law_gcd : Fm := mOf 2 2 b__law_gcd
def b__law_ratio : LSt → Fl := (zSeq (zSet 2 (sCall m__law_gcd (sCons (sVar 0) (sCons (sVar 1) sNil))))
    (zSeq (zIf (sTst (sBin ltD (sVar 1) (sC (.int (0))))) (zSet 2 (sUn negD (sVar 2))) zNext)
    (zRet (sTup (sCons (sBin divD (sVar 0) (sVar 2)) (sCons (sBin divD (sVar 1) (sVar 2)) sNil))))))
def m__law_ratio : Fm := mOf 3 2 b__law_ratio
def b__law_rw_fraction : LSt → Fl := (zSeq (zSet 2 (sCall m__law_pick (sCons (sVar 0) (sCons (sFrz (sLst (sCons (sC (.int (1))) (sCons (sC (.int (1))) (sCons (sC (.int (1))) (sCons (sC (.int (2))) (sCons (sC (.int (3))) (sCons (sC (.int (4))) (sCons (sC (.int (6))) (sCons (sC (.int (5))) sNil)))))))))) sNil))))
    (zRet (sCall m__law_ratio (sCons (sBin subD (sCall m__law_roll (sCons (sVar 0) (sCons (sBin addD (sBin mulD (sC (.int (2))) (sVar 1)) (sC (.int (1)))) sNil))) (sVar 1)) (sCons (sVar 2) sNil)))))
def m__law_rw_fraction : Fm := mOf 3 2 b__law_rw_fraction
def b__law_rw_drawn : LSt → Fl := (zRet (sFrz (sComp (sWalk rng1D (sCons (sBin addD (sVar 1) (sC (.int (1)))) sNil)) (gSet 3) sYes (sIf (sTst (sBin gtD (sCall m__law_roll (sCons (sVar 0) (sCons (sC (.int (4))) sNil))) (sC (.int (0))))) (sCall m__law_rw_fraction (sCons (sVar 0) (sCons (sVar 2) sNil))) (sTup (sCons (sC (.int (0))) (sCons (sC (.int (1))) sNil)))) [3])))
def m__law_rw_drawn : Fm := mOf 4 3 b__law_rw_drawn
def b_Ratio___str__ : LSt → Fl := (zSeq (zIf (sTst (sBin eqX (sAttr ta_own_bottom (sVar 0)) (sC (.int (1))))) (zRet (sUn fmtD (sAttr ta_own_top (sVar 0)))) zNext)
    (zRet (sJoinP [(sUn fmtD (sAttr ta_own_top (sVar 0))), (sC (.str "/")), (sUn fmtD (sAttr ta_own_bottom (sVar 0)))] Str.empty)))
def m_Ratio___str__ : Fm := mOf 1 1 b_Ratio___str__
def b_term_text : LSt → Fl := (zSeq (zSet 3 (sIf (sTst (sBin eqX (sVar 2) (sC (.int (1))))) (sBlt (strD tst0) (sCons (sVar 1) sNil)) (sJoinP [(sUn fmtD (sVar 1)), (sC (.str "/")), (sUn fmtD (sVar 2))] Str.empty)))
    (zSeq (zSet 4 (sIf (sTst (sBin eqX (sVar 0) (sC (.int (1))))) (sC (.str "x")) (sJoinP [(sC (.str "x^")), (sUn fmtD (sVar 0))] Str.empty)))
    (zSeq (zIf (sTst (sBin eqX (sVar 0) (sC (.int (0))))) (zRet (sVar 3)) zNext)
    (zRet (sIf (sTst (sBin eqX (sVar 3) (sC (.str "1")))) (sVar 4) (sJoinP [(sUn fmtD (sVar 3)), (sC (.str "*")), (sUn fmtD (sVar 4))] Str.empty))))))
def m_term_text : Fm := mOf 5 3 b_term_text
def b_row_text : LSt → Fl := (zSeq (zSet 3 (sC (.str "")))
    (zSeq (zForI (sWalk enumAD (sCons (sVar 0) sNil)) (gTupD 2 (gsCons (gSet 4) (gsCons (gSet 5) gsNil))) (zIf (sTst (sBin neD (sVar 5) (sC (.int (0))))) (zSeq (zSet 6 (sBlt gcdD (sCons (sVar 5) (sCons (sVar 1) sNil))))
    (zSeq (zSet 7 (sCall m_term_text (sCons (sVar 4) (sCons (sBin divD (sBlt absD (sCons (sVar 5) sNil)) (sVar 6)) (sCons (sBin divD (sVar 1) (sVar 6)) sNil)))))
    (zSeq (zSet 8 (sIf (sTst (sBin eqX (sVar 3) (sC (.str "")))) (sIf (sTst (sBin ltD (sVar 5) (sC (.int (0))))) (sC (.str "-")) (sC (.str ""))) (sIf (sTst (sBin ltD (sVar 5) (sC (.int (0))))) (sC (.str " - ")) (sC (.str " + ")))))
    (zSet 3 (sBin addD (sBin addD (sVar 3) (sVar 8)) (sVar 7)))))) zNext))
    (zSeq (zSet 9 (sIf (sTst (sBin neD (sVar 3) (sC (.str "")))) (sVar 3) (sC (.str "0"))))
    (zRet (sBin addD (sJoinP [(sUn fmtD (sVar 9)), (sC (.str " to ")), (sUn fmtD (sBin subD (sBlt lenD (sCons (sVar 0) sNil)) (sC (.int (1)))))] Str.empty) (sIf (sTst (sBin gtD (sVar 2) (sC (.int (0))))) (sJoinP [(sC (.str " modulo ")), (sUn fmtD (sVar 2))] Str.empty) (sC (.str ""))))))))
def m_row_text : Fm := mOf 10 3 b_row_text
def b_Row___str__ : LSt → Fl := (zRet (sUn fmtD (sCall m_row_text (sCons (sAttr ta_own_tops (sVar 0)) (sCons (sAttr ta_own_bottom (sVar 0)) (sCons (sAttr ta_own_modulus (sVar 0)) sNil))))))
def m_Row___str__ : Fm := mOf 1 1 b_Row___str__
def tstT : Nat → Option Fm := fun n => match n with
  | 1 => some m_Ratio___str__
  | 3 => some m_Row___str__
  | _ => none
def b__law_rw_text : LSt → Fl := (zSeq (zSet 2 (sC (.str "")))
    (zSeq (zForI (sWalk enumAD (sCons (sVar 0) sNil)) (gTupD 2 (gsCons (gSet 3) (gsCons (gSet 4) gsNil))) (zSeq (zSet 5 (sBin addD (sBlt (strD tstT) (sCons (sBlt absD (sCons (sBin ixD (sVar 4) (sC (.int (0)))) sNil)) sNil)) (sIf (sTst (sBin (neY teqT tkT) (sBin ixD (sVar 4) (sC (.int (1)))) (sC (.int (1))))) (sBin addD (sC (.str "/")) (sBlt (strD tstT) (sCons (sBin ixD (sVar 4) (sC (.int (1)))) sNil))) (sC (.str "")))))
    (zSeq (zSet 6 (sIf (sTst (sBin (eqY teqT tkT) (sVar 3) (sC (.int (0))))) (sC (.str "")) (sIf (sTst (sBin (eqY teqT tkT) (sVar 3) (sC (.int (1))))) (sC (.str "x")) (sBin addD (sC (.str "x^")) (sBlt (strD tstT) (sCons (sVar 3) sNil))))))
    (zSeq (zIf (sTst (sBin (neY teqT tkT) (sVar 6) (sC (.str "")))) (zSet 5 (sIf (sTst (sBin (eqY teqT tkT) (sVar 5) (sC (.str "1")))) (sVar 6) (sBin addD (sBin addD (sVar 5) (sC (.str "*"))) (sVar 6)))) zNext)
    (zIf (sAnd (sTst (sBin (neY teqT tkT) (sBin ixD (sVar 4) (sC (.int (0)))) (sC (.int (0))))) (sTst (sBin (eqY teqT tkT) (sVar 2) (sC (.str ""))))) (zSet 2 (sBin addD (sIf (sTst (sBin ltD (sBin ixD (sVar 4) (sC (.int (0)))) (sC (.int (0))))) (sC (.str "-")) (sC (.str ""))) (sVar 5))) (zIf (sTst (sBin (neY teqT tkT) (sBin ixD (sVar 4) (sC (.int (0)))) (sC (.int (0))))) (zSet 2 (sBin addD (sBin addD (sVar 2) (sIf (sTst (sBin ltD (sBin ixD (sVar 4) (sC (.int (0)))) (sC (.int (0))))) (sC (.str " - ")) (sC (.str " + ")))) (sVar 5))) zNext))))))
    (zRet (sBin addD (sBin addD (sBin addD (sIf (sTst (sBin (neY teqT tkT) (sVar 2) (sC (.str "")))) (sVar 2) (sC (.str "0"))) (sC (.str " to "))) (sBlt (strD tstT) (sCons (sBin subD (sBlt lenD (sCons (sVar 0) sNil)) (sC (.int (1)))) sNil))) (sIf (sTst (sBin gtD (sVar 1) (sC (.int (0))))) (sBin addD (sC (.str " modulo ")) (sBlt (strD tstT) (sCons (sVar 1) sNil))) (sC (.str "")))))))
def m__law_rw_text : Fm := mOf 7 2 b__law_rw_text
def b_Row_whole : LSt → Fl := (zSeq (zIf (sTst (sBin neD (sAttr ta_own_bottom (sVar 0)) (sC (.int (1))))) (zRaise0 8) zNext)
    (zRet (sAttr ta_own_tops (sVar 0))))
def m_Row_whole : Fm := mOf 1 1 b_Row_whole
def tm_whole : Nat → Option Fm := fun n => match n with
  | 3 => some m_Row_whole
  | _ => none
def b__law_whole : LSt → Fl := (zTry xmT [(8, none, (zRet (sTup (sCons (sC (.str "raised")) (sCons (sC (.str "operation")) sNil)))))] (zRet (sMth tm_whole (sVar 0) sNil)))
def m__law_whole : Fm := mOf 1 1 b__law_whole
def b_Row_degree : LSt → Fl := (zRet (sBin subD (sBlt lenD (sCons (sAttr ta_own_tops (sVar 0)) sNil)) (sC (.int (1)))))
def m_Row_degree : Fm := mOf 1 1 b_Row_degree
def b_Row_modulus : LSt → Fl := (zRet (sAttr ta_own_modulus (sVar 0)))
def m_Row_modulus : Fm := mOf 1 1 b_Row_modulus
def b_Row_order : LSt → Fl := (zRet (sAttr ta_own_order (sVar 0)))
def m_Row_order : Fm := mOf 1 1 b_Row_order
def b_Row_is_whole : LSt → Fl := (zRet (sAndV (sBin eqX (sAttr ta_own_modulus (sVar 0)) (sC (.int (0)))) (sBin eqX (sAttr ta_own_bottom (sVar 0)) (sC (.int (1))))))
def m_Row_is_whole : Fm := mOf 1 1 b_Row_is_whole
def b_require_count : LSt → Fl := (zIf (sOr (sNot (sTru (sCall m_is_integer (sCons (sVar 0) sNil)))) (sNot (sTst (sChain leD leD (sVar 1) (sVar 0) (sVar 2))))) (zRaise 10 (sVar 0)) zNext)
def m_require_count : Fm := mOf 3 3 b_require_count
def b_Row_at : LSt → Fl := (zSeq (zDrop (sCall m_require_count (sCons (sVar 1) (sCons (sC (.int (0))) (sCons (sBin subD (sBlt lenD (sCons (sAttr ta_own_tops (sVar 0)) sNil)) (sC (.int (1)))) sNil)))))
    (zRet (sBin ixD (sAttr ta_own_entries (sVar 0)) (sVar 1))))
def m_Row_at : Fm := mOf 2 2 b_Row_at
def b_Row___len__ : LSt → Fl := (zRet (sBlt lenD (sCons (sAttr ta_own_tops (sVar 0)) sNil)))
def m_Row___len__ : Fm := mOf 1 1 b_Row___len__
def tm_at : Nat → Option Fm := fun n => match n with
  | 3 => some m_Row_at
  | _ => none
def tp_degree : Nat → Option Fm := fun n => match n with
  | 3 => some m_Row_degree
  | _ => none
def tp_is_whole : Nat → Option Fm := fun n => match n with
  | 3 => some m_Row_is_whole
  | _ => none
def tp_modulus : Nat → Option Fm := fun n => match n with
  | 3 => some m_Row_modulus
  | _ => none
def tp_order : Nat → Option Fm := fun n => match n with
  | 3 => some m_Row_order
  | _ => none
def tlnT : Nat → Option Fm := fun n => match n with
  | 3 => some m_Row___len__
  | _ => none
def titT : Nat → Option Nat := fun n => match n with
  | 3 => some 1
  | _ => none
def b__law_fractions_right : LSt → Fl := (zSeq (zSet 1 (sCall m__law_rw_drawn (sCons (sVar 0) (sCons (sCall m__law_roll (sCons (sVar 0) (sCons (sC (.int (25))) sNil))) (sCons (sCall m__law_pick (sCons (sVar 0) (sCons (sFrz (sLst (sCons (sC (.int (3))) (sCons (sC (.int (12))) (sCons (sBin powD (sC (.int (10))) (sC (.int (20)))) (sCons (sBin powD (sC (.int (10))) (sC (.int (59)))) sNil)))))) sNil))) sNil)))))
    (zSeq (zAsg (sTup (sCons (sCall m__law_rw_made (sCons (sVar 1) sNil)) (sCons (sBin subD (sBlt lenD (sCons (sVar 1) sNil)) (sC (.int (1)))) sNil))) (gTupD 2 (gsCons (gSet 2) (gsCons (gSet 3) gsNil))))
    (zSeq (zSetO 4 (sComp (sWalk enumAD (sCons (sVar 1) sNil)) (gTupD 2 (gsCons (gSet 5) (gsCons (gSet 6) gsNil))) (sTst (sBin (neY teqT tkT) (sBin ixD (sVar 6) (sC (.int (0)))) (sC (.int (0))))) (sVar 5) [5, 6]))
    (zSeq (zIf (sTst (sBin neD (sFrz (sLst (sCons (sPrp tp_degree (sVar 2)) (sCons (sPrp tp_modulus (sVar 2)) (sCons (sPrp tp_order (sVar 2)) (sCons (sBlt (lenY tlnT) (sCons (sVar 2) sNil)) sNil)))))) (sFrz (sLst (sCons (sVar 3) (sCons (sC (.int (0))) (sCons (sIf (sTst (sBin (neY teqT tkT) (sVar 4) (sFrz (sLst sNil)))) (sBin ixD (sVar 4) (sC (.int (0)))) (sC .non)) (sCons (sBin addD (sVar 3) (sC (.int (1)))) sNil)))))))) (zRet (sC (.bl false))) zNext)
    (zSeq (zIf (sOr (sTst (sBin (neY teqT tkT) (sCall m__law_pairs_of (sCons (sVar 2) sNil)) (sVar 1))) (sOr (sTst (sBin (neY teqT tkT) (sBlt (listT titT tlnT) (sCons (sVar 2) sNil)) (sFrz (sLstOf (sPrp tp_entries (sVar 2)))))) (sTst (sBin (neY teqT tkT) (sFrz (sComp (sWalk rng1D (sCons (sBin addD (sVar 3) (sC (.int (1)))) sNil)) (gSet 5) sYes (sMth tm_at (sVar 2) (sCons (sVar 5) sNil)) [5])) (sBlt (listT titT tlnT) (sCons (sVar 2) sNil)))))) (zRet (sC (.bl false))) zNext)
    (zSeq (zSet 7 (sCall m__law_are_whole (sCons (sVar 1) sNil)))
    (zSeq (zIf (sOr (sTst (sBin (neY teqT tkT) (sPrp tp_is_whole (sVar 2)) (sVar 7))) (sTst (sBin (neY teqT tkT) (sBlt (strD tstT) (sCons (sVar 2) sNil)) (sCall m__law_rw_text (sCons (sVar 1) (sCons (sC (.int (0))) sNil)))))) (zRet (sC (.bl false))) zNext)
    (zSeq (zIf (sTst (sBin (neY teqT tkT) (sCall m__law_whole (sCons (sVar 2) sNil)) (sIf (sTru (sVar 7)) (sBlt tupD (sCons (sFrz (sComp (sItems (sVar 1)) (gSet 6) sYes (sBin ixD (sVar 6) (sC (.int (0)))) [6])) sNil)) (sTup (sCons (sC (.str "raised")) (sCons (sC (.str "operation")) sNil)))))) (zRet (sC (.bl false))) zNext)
    (zSeq (zSet 8 (sBlt tupD (sCons (sFrz (sComp (sItems (sVar 1)) (gSet 6) sYes (sIf (sTst (sBin (eqY teqT tkT) (sBin ixD (sVar 6) (sC (.int (1)))) (sC (.int (1))))) (sBin ixD (sVar 6) (sC (.int (0)))) (sCall (mkC 1 i_Ratio) (sCons (sBin ixD (sVar 6) (sC (.int (0)))) (sCons (sBin ixD (sVar 6) (sC (.int (1)))) sNil)))) [6])) sNil)))
    (zRet (sAndV (sBin (eqY teqT tkT) (sCall (mkC 3 (dfl i_Row (.int (0)))) (sCons (sVar 8) sNil)) (sVar 2)) (sAndV (sBin (neY teqT tkT) (sVar 2) (sVar 8)) (sAndV (sBin (neY teqT tkT) (sVar 2) (sVar 1)) (sOrV (sBin (eqY teqT tkT) (sVar 3) (sC (.int (24)))) (sBin (neY teqT tkT) (sVar 2) (sCall (mkC 3 (dfl i_Row (.int (0)))) (sCons (sBin addD (sVar 8) (sTup (sCons (sC (.int (0))) sNil))) sNil)))))))))))))))))
def m__law_fractions_right : Fm := mOf 9 1 b__law_fractions_right
def b__law_residues_right : LSt → Fl := (zSeq (zAsg (sTup (sCons (sCall m__law_pick (sCons (sVar 0) (sCons (sFrz (sLst (sCons (sC (.int (2))) (sCons (sC (.int (5))) (sCons (sC (.int (12))) (sCons (sC (.int (10000))) sNil)))))) sNil))) (sCons (sCall m__law_roll (sCons (sVar 0) (sCons (sC (.int (12))) sNil))) sNil))) (gTupD 2 (gsCons (gSet 1) (gsCons (gSet 2) gsNil))))
    (zSeq (zSet 3 (sBlt tupD (sCons (sFrz (sComp (sWalk rng1D (sCons (sBin addD (sVar 2) (sC (.int (1)))) sNil)) (gSet 4) sYes (sBin subD (sCall m__law_roll (sCons (sVar 0) (sCons (sBin powD (sC (.int (10))) (sC (.int (9)))) sNil))) (sBin powD (sC (.int (10))) (sC (.int (8))))) [4])) sNil)))
    (zSeq (zSet 5 (sBlt tupD (sCons (sFrz (sComp (sItems (sVar 3)) (gSet 6) sYes (sBin modD (sBlt intD (sCons (sVar 6) sNil)) (sVar 1)) [6])) sNil)))
    (zSeq (zSet 7 (sCallK 1 1 (mkC 3 i_Row) (sCons (sVar 3) sNil) (sCons (sVar 1) sNil)))
    (zSeq (zIf (sOr (sTst (sBin (neY teqT tkT) (sPrp tp_entries (sVar 7)) (sVar 5))) (sOr (sTst (sBin (neY teqT tkT) (sMth tm_whole (sVar 7) sNil) (sVar 5))) (sOr (sTru (sPrp tp_is_whole (sVar 7))) (sOr (sTst (sBin (neY teqT tkT) (sPrp tp_modulus (sVar 7)) (sVar 1))) (sTst (sBin (neY teqT tkT) (sBlt (listT titT tlnT) (sCons (sVar 7) sNil)) (sFrz (sLstOf (sVar 5))))))))) (zRet (sC (.bl false))) zNext)
    (zSeq (zIf (sOr (sTst (sBin (eqY teqT tkT) (sVar 7) (sCall (mkC 3 (dfl i_Row (.int (0)))) (sCons (sVar 5) sNil)))) (sOr (sTst (sBin (neY teqT tkT) (sVar 7) (sCallK 1 1 (mkC 3 i_Row) (sCons (sVar 5) sNil) (sCons (sVar 1) sNil)))) (sTst (sBin (eqY teqT tkT) (sVar 7) (sVar 5))))) (zRet (sC (.bl false))) zNext)
    (zRet (sBin (eqY teqT tkT) (sBlt (strD tstT) (sCons (sVar 7) sNil)) (sCall m__law_rw_text (sCons (sFrz (sComp (sItems (sVar 5)) (gSet 6) sYes (sTup (sCons (sVar 6) (sCons (sC (.int (1))) sNil))) [6])) (sCons (sVar 1) sNil)))))))))))
def m__law_residues_right : Fm := mOf 8 1 b__law_residues_right
def b_Made_init : LSt → Fl := (zSelf 0 ta_own_line (sVar 1))
def i_Made : Fm := mOfI 2 2 b_Made_init
def b_Row_plain : LSt → Fl := (zSeq (zDrop (sCall m_require_count (sCons (sVar 1) (sCons (sC (.int (1))) (sCons (sC (.int (24))) sNil)))))
    (zSeq (zDrop (sCall m_require_modulus (sCons (sVar 2) sNil)))
    (zRet (sCallC 0 3 1 1 (mkC 3 i_Row) (sCons (sCall (mkC 2 i_Made) (sCons (sTup (sCons (sFrz (sLst (sCons (sC (.int (0))) (sCons (sC (.int (1))) (sStar (sBin mulD (sFrz (sLst (sCons (sC (.int (0))) sNil))) (sBin subD (sVar 1) (sC (.int (1))))) sNil))))) (sCons (sC (.int (1))) sNil))) sNil)) sNil) (sCons (sVar 2) sNil)))))
def m_Row_plain : Fm := mOf 3 3 b_Row_plain
def b_law : LSt → Fl := (zSeq (zForI (sWalk rng1D (sCons (sBlt maxD (sCons (sC (.int (1))) (sCons (sBlt minD (sCons (sC (.int (3))) (sCons (sBlt lenD (sCons (sVar 0) sNil)) sNil))) sNil))) sNil)) (gSet 1) (zSeq (zSetO 2 (sCallO m__law_dice (sCons (sVar 0) (sCons (sVar 1) sNil))))
    (zIf (sOr (sNot (sTru (sLend 2 m__law_fractions_right sNil))) (sOr (sNot (sTru (sLend 2 m__law_fractions_right sNil))) (sNot (sTru (sLend 2 m__law_residues_right sNil))))) (zRet (sC (.bl false))) zNext)))
    (zSeq (zSet 3 (sCall (mkC 3 (dfl i_Row (.int (0)))) (sCons (sTup (sCons (sC (.int (0))) (sCons (sC (.int (1))) (sCons (sCall (mkC 1 i_Ratio) (sCons (sUn negD (sC (.int (1)))) (sCons (sC (.int (2))) sNil))) (sCons (sCall (mkC 1 i_Ratio) (sCons (sC (.int (1))) (sCons (sC (.int (3))) sNil))) sNil))))) sNil)))
    (zSeq (zSet 4 (sFrz (sLst (sCons (sBlt (strD tstT) (sCons (sVar 3) sNil)) (sCons (sPrp tp_degree (sVar 3)) (sCons (sPrp tp_order (sVar 3)) (sCons (sPrp tp_is_whole (sVar 3)) (sCons (sBlt (strD tstT) (sCons (sCall (mkC 3 (dfl i_Row (.int (0)))) (sCons (sTup (sCons (sC (.int (3))) sNil)) sNil)) sNil)) (sCons (sBlt (strD tstT) (sCons (sCall (mkC 3 (dfl i_Row (.int (0)))) (sCons (sTup (sCons (sC (.int (0))) (sCons (sC (.int (0))) sNil))) sNil)) sNil)) (sCons (sPrp tp_order (sCall (mkC 3 (dfl i_Row (.int (0)))) (sCons (sTup (sCons (sC (.int (0))) (sCons (sC (.int (0))) sNil))) sNil))) sNil))))))))))
    (zSeq (zIf (sTst (sBin (neY teqT tkT) (sVar 4) (sFrz (sLst (sCons (sC (.str "x - 1/2*x^2 + 1/3*x^3 to 3")) (sCons (sC (.int (3))) (sCons (sC (.int (1))) (sCons (sC (.bl false)) (sCons (sC (.str "3 to 0")) (sCons (sC (.str "0 to 1")) (sCons (sC .non) sNil))))))))))) (zRet (sC (.bl false))) zNext)
    (zRet (sAndV (sBin (eqY teqT tkT) (sBlt (strD tstT) (sCons (sCall (mkC 3 (dfl i_Row (.int (0)))) (sCons (sTup (sCons (sUn negD (sC (.int (1)))) (sCons (sUn negD (sC (.int (1)))) (sCons (sCall (mkC 1 i_Ratio) (sCons (sUn negD (sC (.int (3)))) (sCons (sC (.int (2))) sNil))) sNil)))) sNil)) sNil)) (sC (.str "-1 - x - 3/2*x^2 to 2"))) (sAndV (sBin (eqY teqT tkT) (sCm 3 1 0 (dfl m_Row_plain (.int (0))) (sCons (sC (.int (2))) sNil) sNil) (sCall (mkC 3 (dfl i_Row (.int (0)))) (sCons (sTup (sCons (sC (.int (0))) (sCons (sC (.int (1))) (sCons (sC (.int (0))) sNil)))) sNil))) (sBin (eqY teqT tkT) (sMth tm_whole (sCm 3 1 0 (dfl m_Row_plain (.int (0))) (sCons (sC (.int (1))) sNil) sNil) sNil) (sTup (sCons (sC (.int (0))) (sCons (sC (.int (1))) sNil)))))))))))
def m_law : Fm := mOf 5 1 b_law
end K08

namespace K08
open PySem PySem.Spec PyProof.Rows L2 Dx
structure Gs (K : PySem.W.Frag) (mg : Str → Option Value) : Prop where
  c_FAR : ∃ t, mg "FAR" = some (.int (1000000000000000000000000000000000000000000000000000000000000) t)
  c_MAX_ROW : ∃ t, mg "MAX_ROW" = some (.int (24) t)
  c_MOST_MODULUS : ∃ t, mg "MOST_MODULUS" = some (.int (10000) t)
  f_abs : mg "abs" = none
  f_all : mg "all" = none
  f_bool : mg "bool" = none
  f_enumerate : mg "enumerate" = none
  b_gcd : mg "gcd" = some (.builtin "math.gcd")
  f_int : mg "int" = none
  f_isinstance : mg "isinstance" = none
  f_iter : mg "iter" = none
  f_len : mg "len" = none
  f_list : mg "list" = none
  f_max : mg "max" = none
  f_min : mg "min" = none
  f_next : mg "next" = none
  f_range : mg "range" = none
  f_str : mg "str" = none
  f_tuple : mg "tuple" = none
section
variable {P : Program} {w : World} {K : PySem.W.Frag} {mg : Str → Option Value} {base : Heap} {cn : Cn} {f : Addr} {fd : FuncData}
structure T__law_dice (P : Program) (w : World) (K : PySem.W.Frag) (mg : Str → Option Value) (base : Heap) (cn : Cn) : Prop where
  u : True
theorem S__law_dice : FnScope ["_law_script", "_law_spot", "_law_cell", "_law_left"] ["_law_script", "_law_spot"] (defScope s__law_dice) := ⟨rfl, rfl, rfl, by decide +kernel, rfl, by decide +kernel, by decide +kernel⟩
theorem R__law_dice (hK : K = cn.K) (G : Gs K mg) (T : T__law_dice P w K mg base cn) (F : FunD K "_law_dice" "_law_dice" (defArgs s__law_dice) (defBody s__law_dice) (defScope s__law_dice) [] [] f fd) : Dx.FnR P w K mg base (L2.CX P w) 2 f (spF cn m__law_dice) :=
  fn0 (k := 1) hK F S__law_dice (FunD.bindsN F fun _ _ _ _ _ _ us hl => match us, hl with | [_, _], _ => rfl) fun cdv A outer s H E c Z =>
    (dss_cons (ds_set (g_name 2 Z) (de_ifExp (t_lt (e_var 1) (e_len Z G.f_len (e_var 0))) (e_int G.f_int (e_ix Z (e_var 0) (e_var 1))) (e_add Z (e_mul Z de_int (e_var 1)) de_int)))
    (dss_cons (ds_set (g_name 3 Z) (e_mod (e_max Z G.f_max de_int (e_sub (e_abs G.f_abs (e_var 2)) (e_pow de_int de_int))) (e_mul Z (e_pow de_int de_int) (e_pow de_int de_int))))
    (dss_one (ds_retO (do_lst (da_cons (e_var 3) (da_cons (e_add Z (e_add Z (e_add Z (e_mul Z (e_mod (e_abs G.f_abs (e_var 2)) de_int) de_int) (e_mul Z de_int (e_var 1))) (e_mul Z de_int (e_int G.f_int (e_lt (e_var 2) de_int)))) de_int) (da_cons de_int da_nil))))))))
structure T__law_roll (P : Program) (w : World) (K : PySem.W.Frag) (mg : Str → Option Value) (base : Heap) (cn : Cn) : Prop where
  u : True
theorem S__law_roll : FnScope ["_law_dice_here", "_law_total", "_law_found", "_law_one", "_law_two"] ["_law_dice_here", "_law_total"] (defScope s__law_roll) := ⟨rfl, rfl, rfl, by decide +kernel, rfl, by decide +kernel, by decide +kernel⟩
theorem R__law_roll (hK : K = cn.K) (G : Gs K mg) (T : T__law_roll P w K mg base cn) (F : FunD K "_law_roll" "_law_roll" (defArgs s__law_roll) (defBody s__law_roll) (defScope s__law_roll) [] [] f fd) : Dx.FnR P w K mg base (L2.CX P w) 2 f (spF cn m__law_roll) :=
  fn0 (k := 1) hK F S__law_roll (FunD.bindsN F fun _ _ _ _ _ _ us hl => match us, hl with | [_, _], _ => rfl) fun cdv A outer s H E c Z =>
    (dss_cons (ds_if (t_gt (de_die (i := 0) (k := 0) (by decide) Z.hK (pv 0) (fun _ _ => rfl)) de_int) (dss_cons (ds_set (g_name 2 Z) (e_mod (e_int G.f_int (de_die (i := 0) (k := 0) (by decide) Z.hK (pv 0) (fun _ _ => rfl))) (e_var 1)))
    (dss_cons (ds_die (i := 0) (k := 0) (by decide) Z.hK (pv 0) (e_div (de_die (i := 0) (k := 0) (by decide) Z.hK (pv 0) (fun _ _ => rfl)) (e_var 1)))
    (dss_one (ds_ret (e_var 2))))) dss_nil)
    (dss_cons (ds_die (i := 0) (k := 2) (by decide) Z.hK (pv 0) (e_add Z (de_die (i := 0) (k := 2) (by decide) Z.hK (pv 0) (fun _ _ => rfl)) de_int))
    (dss_cons (ds_set (g_name 3 Z) (e_mod (e_int G.f_int (e_add Z (de_die (i := 0) (k := 1) (by decide) Z.hK (pv 0) (fun _ _ => rfl)) (e_mul Z de_int (de_die (i := 0) (k := 2) (by decide) Z.hK (pv 0) (fun _ _ => rfl))))) de_int))
    (dss_cons (ds_set (g_name 4 Z) (e_add Z (e_mul Z (e_mod (e_int G.f_int (e_add Z (e_mul Z (e_var 3) (e_var 3)) (e_mul Z de_int (de_die (i := 0) (k := 2) (by decide) Z.hK (pv 0) (fun _ _ => rfl))))) de_int) de_int) (e_var 3)))
    (dss_one (ds_ret (e_mod (e_int G.f_int (e_div (e_var 4) de_int)) (e_var 1))))))))
structure T__law_pick (P : Program) (w : World) (K : PySem.W.Frag) (mg : Str → Option Value) (base : Heap) (cn : Cn) : Prop where
  d__law_roll : Cal P w K mg base cn 2 "_law_roll" m__law_roll
theorem S__law_pick : FnScope ["_law_dice_here", "_law_items"] ["_law_dice_here", "_law_items"] (defScope s__law_pick) := ⟨rfl, rfl, rfl, by decide +kernel, rfl, by decide +kernel, by decide +kernel⟩
theorem R__law_pick (hK : K = cn.K) (G : Gs K mg) (T : T__law_pick P w K mg base cn) (F : FunD K "_law_pick" "_law_pick" (defArgs s__law_pick) (defBody s__law_pick) (defScope s__law_pick) [] [] f fd) : Dx.FnR P w K mg base (L2.CX P w) 4 f (spF cn m__law_pick) :=
  fn0 (k := 3) hK F S__law_pick (FunD.bindsN F fun _ _ _ _ _ _ us hl => match us, hl with | [_, _], _ => rfl) fun cdv A outer s H E c Z =>
    (dss_one (ds_ret (e_ix Z (e_var 1) (e_call Z T.d__law_roll (by decide) (da_cons (e_var 0) (da_cons (e_len Z G.f_len (e_var 1)) da_nil))))))
structure T_Ratio___eq__ (P : Program) (w : World) (K : PySem.W.Frag) (mg : Str → Option Value) (base : Heap) (cn : Cn) : Prop where
  j_Ratio : ∃ C, mg "Ratio" = some (.ref C) ∧ IsiOk cn C tj_Ratio
  a_own_bottom : AttrOk cn "own_bottom" ta_own_bottom
  a_own_top : AttrOk cn "own_top" ta_own_top
theorem S_Ratio___eq__ : FnScope ["self", "other"] ["self", "other"] (defScope s_Ratio___eq__) := ⟨rfl, rfl, rfl, by decide +kernel, rfl, by decide +kernel, by decide +kernel⟩
theorem R_Ratio___eq__ (hK : K = cn.K) (G : Gs K mg) (T : T_Ratio___eq__ P w K mg base cn) (F : FunD K "__eq__" "Ratio.__eq__" (defArgs s_Ratio___eq__) (defBody s_Ratio___eq__) (defScope s_Ratio___eq__) [] [] f fd) : Dx.FnR P w K mg base (L2.CX P w) 2 f (spF cn m_Ratio___eq__) :=
  fn0 (k := 1) hK F S_Ratio___eq__ (FunD.bindsN F fun _ _ _ _ _ _ us hl => match us, hl with | [_, _], _ => rfl) fun cdv A outer s H E c Z =>
    (dss_cons (ds_if (dt_not (t_tru Z (e_isi Z T.j_Ratio G.f_isinstance (e_var 1)))) (dss_one (ds_ret de_bl)) dss_nil)
    (dss_one (ds_ret (de_and (e_eqX Z (e_attr Z T.a_own_top (e_var 0)) (e_attr Z T.a_own_top (e_var 1))) (de_one (e_eqX Z (e_attr Z T.a_own_bottom (e_var 0)) (e_attr Z T.a_own_bottom (e_var 1))))))))
structure T_Row___eq__ (P : Program) (w : World) (K : PySem.W.Frag) (mg : Str → Option Value) (base : Heap) (cn : Cn) : Prop where
  j_Row : ∃ C, mg "Row" = some (.ref C) ∧ IsiOk cn C tj_Row
  a_own_bottom : AttrOk cn "own_bottom" ta_own_bottom
  a_own_modulus : AttrOk cn "own_modulus" ta_own_modulus
  a_own_tops : AttrOk cn "own_tops" ta_own_tops
theorem S_Row___eq__ : FnScope ["self", "other"] ["self", "other"] (defScope s_Row___eq__) := ⟨rfl, rfl, rfl, by decide +kernel, rfl, by decide +kernel, by decide +kernel⟩
theorem R_Row___eq__ (hK : K = cn.K) (G : Gs K mg) (T : T_Row___eq__ P w K mg base cn) (F : FunD K "__eq__" "Row.__eq__" (defArgs s_Row___eq__) (defBody s_Row___eq__) (defScope s_Row___eq__) [] [] f fd) : Dx.FnR P w K mg base (L2.CX P w) 2 f (spF cn m_Row___eq__) :=
  fn0 (k := 1) hK F S_Row___eq__ (FunD.bindsN F fun _ _ _ _ _ _ us hl => match us, hl with | [_, _], _ => rfl) fun cdv A outer s H E c Z =>
    (dss_cons (ds_if (dt_w (dw_or (dt_not (t_tru Z (e_isi Z T.j_Row G.f_isinstance (e_var 1)))) (dw_or1 (t_ne Z (e_attr Z T.a_own_modulus (e_var 0)) (e_attr Z T.a_own_modulus (e_var 1)))))) (dss_one (ds_ret de_bl)) dss_nil)
    (dss_one (ds_ret (de_and (e_eqX Z (e_attr Z T.a_own_tops (e_var 0)) (e_attr Z T.a_own_tops (e_var 1))) (de_one (e_eqX Z (e_attr Z T.a_own_bottom (e_var 0)) (e_attr Z T.a_own_bottom (e_var 1))))))))
structure T__law_are_whole (P : Program) (w : World) (K : PySem.W.Frag) (mg : Str → Option Value) (base : Heap) (cn : Cn) : Prop where
  oeq : OeqOk P w mg base cn 2 teqT tkT
theorem S__law_are_whole : FnScope ["_law_entries", "_law_entry"] ["_law_entries"] (defScope s__law_are_whole) := ⟨rfl, rfl, rfl, by decide +kernel, rfl, by decide +kernel, by decide +kernel⟩
theorem R__law_are_whole (hK : K = cn.K) (G : Gs K mg) (T : T__law_are_whole P w K mg base cn) (F : FunD K "_law_are_whole" "_law_are_whole" (defArgs s__law_are_whole) (defBody s__law_are_whole) (defScope s__law_are_whole) [] [] f fd) : Dx.FnR P w K mg base (L2.CX P w) 4 f (spF cn m__law_are_whole) :=
  fn0 (k := 3) hK F S__law_are_whole (FunD.bindsN F fun _ _ _ _ _ _ us hl => match us, hl with | [_], _ => rfl) fun cdv A outer s H E c Z =>
    (dss_one (ds_ret (e_eqY Z T.oeq (by decide) (de_frz (do_lc (own := [("_law_entry", 1)]) Z.calm Z.nd (r_list Z (e_var 0)) (blkOk_by (N := ["_law_entries", "_law_entry"]) (sc := defScope s__law_are_whole) (own := [("_law_entry", 1)]) (by decide +kernel)) (by decide) (fun s H C cl fp => (dg_name (g_nm 1 Z.nd))) (fun s H C cl fp c1 h1 => (dts_one (t_neY (Ctx.blk Z h1 s H _ _ fp) T.oeq (by decide) (e_ix (Ctx.blk Z h1 s H _ _ fp) (e_var 1) de_int) de_int))) (fun s H C cl fp c1 h1 => (e_var 1)))) (de_frz (do_lst da_nil)))))
structure T_Ratio_top (P : Program) (w : World) (K : PySem.W.Frag) (mg : Str → Option Value) (base : Heap) (cn : Cn) : Prop where
  a_own_top : AttrOk cn "own_top" ta_own_top
theorem S_Ratio_top : FnScope ["self"] ["self"] (defScope s_Ratio_top) := ⟨rfl, rfl, rfl, by decide +kernel, rfl, by decide +kernel, by decide +kernel⟩
theorem R_Ratio_top (hK : K = cn.K) (G : Gs K mg) (T : T_Ratio_top P w K mg base cn) (F : FunD K "top" "Ratio.top" (defArgs s_Ratio_top) (defBody s_Ratio_top) (defScope s_Ratio_top) [] [] f fd) : Dx.FnR P w K mg base (L2.CX P w) 2 f (spF cn m_Ratio_top) :=
  fn0 (k := 1) hK F S_Ratio_top (FunD.bindsN F fun _ _ _ _ _ _ us hl => match us, hl with | [_], _ => rfl) fun cdv A outer s H E c Z =>
    (dss_one (ds_ret (e_attr Z T.a_own_top (e_var 0))))
structure T_Ratio_bottom (P : Program) (w : World) (K : PySem.W.Frag) (mg : Str → Option Value) (base : Heap) (cn : Cn) : Prop where
  a_own_bottom : AttrOk cn "own_bottom" ta_own_bottom
theorem S_Ratio_bottom : FnScope ["self"] ["self"] (defScope s_Ratio_bottom) := ⟨rfl, rfl, rfl, by decide +kernel, rfl, by decide +kernel, by decide +kernel⟩
theorem R_Ratio_bottom (hK : K = cn.K) (G : Gs K mg) (T : T_Ratio_bottom P w K mg base cn) (F : FunD K "bottom" "Ratio.bottom" (defArgs s_Ratio_bottom) (defBody s_Ratio_bottom) (defScope s_Ratio_bottom) [] [] f fd) : Dx.FnR P w K mg base (L2.CX P w) 2 f (spF cn m_Ratio_bottom) :=
  fn0 (k := 1) hK F S_Ratio_bottom (FunD.bindsN F fun _ _ _ _ _ _ us hl => match us, hl with | [_], _ => rfl) fun cdv A outer s H E c Z =>
    (dss_one (ds_ret (e_attr Z T.a_own_bottom (e_var 0))))
structure T_Row_entries (P : Program) (w : World) (K : PySem.W.Frag) (mg : Str → Option Value) (base : Heap) (cn : Cn) : Prop where
  a_own_entries : AttrOk cn "own_entries" ta_own_entries
theorem S_Row_entries : FnScope ["self"] ["self"] (defScope s_Row_entries) := ⟨rfl, rfl, rfl, by decide +kernel, rfl, by decide +kernel, by decide +kernel⟩
theorem R_Row_entries (hK : K = cn.K) (G : Gs K mg) (T : T_Row_entries P w K mg base cn) (F : FunD K "entries" "Row.entries" (defArgs s_Row_entries) (defBody s_Row_entries) (defScope s_Row_entries) [] [] f fd) : Dx.FnR P w K mg base (L2.CX P w) 2 f (spF cn m_Row_entries) :=
  fn0 (k := 1) hK F S_Row_entries (FunD.bindsN F fun _ _ _ _ _ _ us hl => match us, hl with | [_], _ => rfl) fun cdv A outer s H E c Z =>
    (dss_one (ds_ret (e_attr Z T.a_own_entries (e_var 0))))
structure T__law_pairs_of (P : Program) (w : World) (K : PySem.W.Frag) (mg : Str → Option Value) (base : Heap) (cn : Cn) : Prop where
  p_bottom : PrpOk P w mg base cn 2 "bottom" tp_bottom
  p_entries : PrpOk P w mg base cn 2 "entries" tp_entries
  p_top : PrpOk P w mg base cn 2 "top" tp_top
theorem S__law_pairs_of : FnScope ["_law_row", "_law_one"] ["_law_row"] (defScope s__law_pairs_of) := ⟨rfl, rfl, rfl, by decide +kernel, rfl, by decide +kernel, by decide +kernel⟩
theorem R__law_pairs_of (hK : K = cn.K) (G : Gs K mg) (T : T__law_pairs_of P w K mg base cn) (F : FunD K "_law_pairs_of" "_law_pairs_of" (defArgs s__law_pairs_of) (defBody s__law_pairs_of) (defScope s__law_pairs_of) [] [] f fd) : Dx.FnR P w K mg base (L2.CX P w) 4 f (spF cn m__law_pairs_of) :=
  fn0 (k := 3) hK F S__law_pairs_of (FunD.bindsN F fun _ _ _ _ _ _ us hl => match us, hl with | [_], _ => rfl) fun cdv A outer s H E c Z =>
    (dss_one (ds_ret (de_frz (do_lc (own := [("_law_one", 1)]) Z.calm Z.nd (r_list Z (e_prp Z (T.p_entries) (by decide) (e_var 0))) (blkOk_by (N := ["_law_row", "_law_one"]) (sc := defScope s__law_pairs_of) (own := [("_law_one", 1)]) (by decide +kernel)) (by decide) (fun s H C cl fp => (dg_name (g_nm 1 Z.nd))) (fun s H C cl fp c1 h1 => dts_nil) (fun s H C cl fp c1 h1 => (de_tup (da_cons (e_prp (Ctx.blk Z h1 s H _ _ fp) (T.p_top) (by decide) (e_var 1)) (da_cons (e_prp (Ctx.blk Z h1 s H _ _ fp) (T.p_bottom) (by decide) (e_var 1)) da_nil))))))))
structure T_is_plain (P : Program) (w : World) (K : PySem.W.Frag) (mg : Str → Option Value) (base : Heap) (cn : Cn) : Prop where
  ik : IskOk cn tkT
theorem S_is_plain : FnScope ["value"] ["value"] (defScope s_is_plain) := ⟨rfl, rfl, rfl, by decide +kernel, rfl, by decide +kernel, by decide +kernel⟩
theorem R_is_plain (hK : K = cn.K) (G : Gs K mg) (T : T_is_plain P w K mg base cn) (F : FunD K "is_plain" "is_plain" (defArgs s_is_plain) (defBody s_is_plain) (defScope s_is_plain) [] [] f fd) : Dx.FnR P w K mg base (L2.CX P w) 2 f (spF cn m_is_plain) :=
  fn0 (k := 1) hK F S_is_plain (FunD.bindsN F fun _ _ _ _ _ _ us hl => match us, hl with | [_], _ => rfl) fun cdv A outer s H E c Z =>
    (dss_one (ds_ret (de_and (e_isiK 0 (by decide) Z T.ik G.f_isinstance (e_var 0) G.f_int) (de_one (de_not (e_isiK 1 (by decide) Z T.ik G.f_isinstance (e_var 0) G.f_bool))))))
structure T_is_short (P : Program) (w : World) (K : PySem.W.Frag) (mg : Str → Option Value) (base : Heap) (cn : Cn) : Prop where
  d_is_plain : Cal P w K mg base cn 2 "is_plain" m_is_plain
theorem S_is_short : FnScope ["value"] ["value"] (defScope s_is_short) := ⟨rfl, rfl, rfl, by decide +kernel, rfl, by decide +kernel, by decide +kernel⟩
theorem R_is_short (hK : K = cn.K) (G : Gs K mg) (T : T_is_short P w K mg base cn) (F : FunD K "is_short" "is_short" (defArgs s_is_short) (defBody s_is_short) (defScope s_is_short) [] [] f fd) : Dx.FnR P w K mg base (L2.CX P w) 4 f (spF cn m_is_short) :=
  fn0 (k := 3) hK F S_is_short (FunD.bindsN F fun _ _ _ _ _ _ us hl => match us, hl with | [_], _ => rfl) fun cdv A outer s H E c Z =>
    (dss_one (ds_ret (de_and (e_call Z T.d_is_plain (by decide) (da_cons (e_var 0) da_nil)) (de_one (de_chain op_lt ok_cmpI op_lt ok_cmpI (e_neg (de_gint (by rfl) G.c_FAR)) (e_var 0) (de_gint (by rfl) G.c_FAR))))))
structure T_Terms_init (P : Program) (w : World) (K : PySem.W.Frag) (mg : Str → Option Value) (base : Heap) (cn : Cn) : Prop where
  a_own_bottom : AttrOk cn "own_bottom" ta_own_bottom
  a_own_top : AttrOk cn "own_top" ta_own_top
theorem S_Terms_init : FnScope ["self", "top", "bottom"] ["self", "top", "bottom"] (defScope s_Terms_init) := ⟨rfl, rfl, rfl, by decide +kernel, rfl, by decide +kernel, by decide +kernel⟩
theorem R_Terms_init (hK : K = cn.K) (G : Gs K mg) (T : T_Terms_init P w K mg base cn) (F : FunD K "__init__" "Terms.__init__" (defArgs s_Terms_init) (defBody s_Terms_init) (defScope s_Terms_init) [] [] f fd) : Dx.FnR P w K mg base (L2.CX P w) 2 f (spI cn 0 i_Terms) :=
  in0 (k := 1) hK F S_Terms_init (FunD.bindsN F fun _ _ _ _ _ _ us hl => match us, hl with | [_, _, _], _ => rfl) fun cdv A outer s H E c Z =>
    (dss_cons (s_self (i := 0) Z T.a_own_top (pv 0) (e_var 1))
    (dss_one (s_self (i := 0) Z T.a_own_bottom (pv 0) (e_var 2))))
structure T_terms_of (P : Program) (w : World) (K : PySem.W.Frag) (mg : Str → Option Value) (base : Heap) (cn : Cn) : Prop where
  k_Terms : Mkr P w K mg base cn 2 "Terms" 0 i_Terms
theorem S_terms_of : FnScope ["top", "bottom", "shared"] ["top", "bottom"] (defScope s_terms_of) := ⟨rfl, rfl, rfl, by decide +kernel, rfl, by decide +kernel, by decide +kernel⟩
theorem R_terms_of (hK : K = cn.K) (G : Gs K mg) (T : T_terms_of P w K mg base cn) (F : FunD K "terms_of" "terms_of" (defArgs s_terms_of) (defBody s_terms_of) (defScope s_terms_of) [] [] f fd) : Dx.FnR P w K mg base (L2.CX P w) 4 f (spF cn m_terms_of) :=
  fn0 (k := 3) hK F S_terms_of (FunD.bindsN F fun _ _ _ _ _ _ us hl => match us, hl with | [_, _], _ => rfl) fun cdv A outer s H E c Z =>
    (dss_cons (ds_set (g_name 2 Z) (e_gcd G.b_gcd (e_var 0) (e_var 1)))
    (dss_cons (ds_if (t_lt (e_var 1) de_int) (dss_one (ds_set (g_name 2 Z) (e_neg (e_var 2)))) dss_nil)
    (dss_one (ds_ret (e_make Z T.k_Terms (by decide) (da_cons (e_div (e_var 0) (e_var 2)) (da_cons (e_div (e_var 1) (e_var 2)) da_nil)))))))
structure T_told_terms (P : Program) (w : World) (K : PySem.W.Frag) (mg : Str → Option Value) (base : Heap) (cn : Cn) : Prop where
  d_is_short : Cal P w K mg base cn 4 "is_short" m_is_short
  d_terms_of : Cal P w K mg base cn 4 "terms_of" m_terms_of
  j_Terms : ∃ C, mg "Terms" = some (.ref C) ∧ IsiOk cn C tj_Terms
  r_InvalidCount : Xe1 P K mg cn "InvalidCount" 10
theorem S_told_terms : FnScope ["top", "bottom"] ["top", "bottom"] (defScope s_told_terms) := ⟨rfl, rfl, rfl, by decide +kernel, rfl, by decide +kernel, by decide +kernel⟩
theorem R_told_terms (hK : K = cn.K) (G : Gs K mg) (T : T_told_terms P w K mg base cn) (F : FunD K "told_terms" "told_terms" (defArgs s_told_terms) (defBody s_told_terms) (defScope s_told_terms) [] [] f fd) : Dx.FnR P w K mg base (L2.CX P w) 6 f (spF cn m_told_terms) :=
  fn0 (k := 5) hK F S_told_terms (FunD.bindsN F fun _ _ _ _ _ _ us hl => match us, hl with | [_, _], _ => rfl) fun cdv A outer s H E c Z =>
    (dss_cons (ds_if (t_tru Z (e_isi Z T.j_Terms G.f_isinstance (e_var 0))) (dss_one (ds_ret (e_var 0))) dss_nil)
    (dss_cons (ds_if (dt_not (t_tru Z (e_call Z T.d_is_short (by decide) (da_cons (e_var 0) da_nil)))) (dss_one (s_raise (k := 4) Z T.r_InvalidCount (e_var 0))) dss_nil)
    (dss_cons (ds_if (dt_w (dw_or (dt_not (t_tru Z (e_call Z T.d_is_short (by decide) (da_cons (e_var 1) da_nil)))) (dw_or1 (t_eqX Z (e_var 1) de_int)))) (dss_one (s_raise (k := 4) Z T.r_InvalidCount (e_var 1))) dss_nil)
    (dss_one (ds_ret (e_call Z T.d_terms_of (by decide) (da_cons (e_var 0) (da_cons (e_var 1) da_nil))))))))
structure T_Ratio_init (P : Program) (w : World) (K : PySem.W.Frag) (mg : Str → Option Value) (base : Heap) (cn : Cn) : Prop where
  d_told_terms : Cal P w K mg base cn 6 "told_terms" m_told_terms
  a_own_bottom : AttrOk cn "own_bottom" ta_own_bottom
  a_own_top : AttrOk cn "own_top" ta_own_top
theorem S_Ratio_init : FnScope ["self", "top", "bottom", "terms"] ["self", "top", "bottom"] (defScope s_Ratio_init) := ⟨rfl, rfl, rfl, by decide +kernel, rfl, by decide +kernel, by decide +kernel⟩
theorem Q_Ratio_init (hK : K = cn.K) (G : Gs K mg) (T : T_Ratio_init P w K mg base cn) (F : FunD K "__init__" "Ratio.__init__" (defArgs s_Ratio_init) (defBody s_Ratio_init) (defScope s_Ratio_init) [(.int (1))] [] f fd) : OkI P w K mg base cn 8 f fd ["self", "top", "bottom"] 1 i_Ratio :=
  io1 (k := 7) hK F S_Ratio_init fun cdv A outer s H E c Z =>
    (dss_cons (ds_set (g_name 3 Z) (e_call Z T.d_told_terms (by decide) (da_cons (e_var 1) (da_cons (e_var 2) da_nil))))
    (dss_cons (s_self (i := 0) Z T.a_own_top (pv 0) (e_attr Z T.a_own_top (e_var 3)))
    (dss_one (s_self (i := 0) Z T.a_own_bottom (pv 0) (e_attr Z T.a_own_bottom (e_var 3))))))
theorem R_Ratio_init (hK : K = cn.K) (G : Gs K mg) (T : T_Ratio_init P w K mg base cn) (F : FunD K "__init__" "Ratio.__init__" (defArgs s_Ratio_init) (defBody s_Ratio_init) (defScope s_Ratio_init) [(.int (1))] [] f fd) : Dx.FnR P w K mg base (L2.CX P w) 8 f (spI cn 1 i_Ratio) := by
  have hb := FunD.binds1 (ps := ["self", "top", "bottom"]) F 3 1 (by simp) (by rfl) fun _ _ _ _ _ _ _ us its h1 h2 => match us, its, h1, h2 with | [_, _, _], [_], _, _ => ⟨_, rfl, rfl⟩
  obtain ⟨ds, hb⟩ := hb
  exact (Q_Ratio_init hK G T F).all rfl rfl hb
theorem D_Ratio_init (hK : K = cn.K) (G : Gs K mg) (T : T_Ratio_init P w K mg base cn) (F : FunD K "__init__" "Ratio.__init__" (defArgs s_Ratio_init) (defBody s_Ratio_init) (defScope s_Ratio_init) [(.int (1))] [] f fd) : Dx.FnR P w K mg base (L2.CX P w) 8 f (spI cn 1 (dfl i_Ratio (.int (1)))) := by
  have hb := FunD.binds1 (ps := ["self", "top", "bottom"]) F 2 0 (by simp) (by rfl) fun _ _ _ _ _ _ _ us its h1 h2 => match us, its, h1, h2 with | [_, _], [_], _, _ => ⟨_, rfl, rfl⟩
  exact (Q_Ratio_init hK G T F).dfl rfl rfl rfl hb
structure T_ratio_of (P : Program) (w : World) (K : PySem.W.Frag) (mg : Str → Option Value) (base : Heap) (cn : Cn) : Prop where
  d_terms_of : Cal P w K mg base cn 4 "terms_of" m_terms_of
  K_Ratio : Mkr P w K mg base cn 8 "Ratio" 1 (dfl i_Ratio (.int (1)))
theorem S_ratio_of : FnScope ["top", "bottom"] ["top", "bottom"] (defScope s_ratio_of) := ⟨rfl, rfl, rfl, by decide +kernel, rfl, by decide +kernel, by decide +kernel⟩
theorem Q_ratio_of (hK : K = cn.K) (G : Gs K mg) (T : T_ratio_of P w K mg base cn) (F : FunD K "ratio_of" "ratio_of" (defArgs s_ratio_of) (defBody s_ratio_of) (defScope s_ratio_of) [(.int (1))] [] f fd) : OkF P w K mg base cn 10 f fd ["top", "bottom"] m_ratio_of :=
  fo1 (k := 9) hK F S_ratio_of fun cdv A outer s H E c Z =>
    (dss_one (ds_ret (e_make Z T.K_Ratio (by decide) (da_cons (e_call Z T.d_terms_of (by decide) (da_cons (e_var 0) (da_cons (e_var 1) da_nil))) da_nil))))
theorem R_ratio_of (hK : K = cn.K) (G : Gs K mg) (T : T_ratio_of P w K mg base cn) (F : FunD K "ratio_of" "ratio_of" (defArgs s_ratio_of) (defBody s_ratio_of) (defScope s_ratio_of) [(.int (1))] [] f fd) : Dx.FnR P w K mg base (L2.CX P w) 10 f (spF cn m_ratio_of) := by
  have hb := FunD.binds1 (ps := ["top", "bottom"]) F 2 1 (by simp) (by rfl) fun _ _ _ _ _ _ _ us its h1 h2 => match us, its, h1, h2 with | [_, _], [_], _, _ => ⟨_, rfl, rfl⟩
  obtain ⟨ds, hb⟩ := hb
  exact (Q_ratio_of hK G T F).all rfl rfl hb
theorem D_ratio_of (hK : K = cn.K) (G : Gs K mg) (T : T_ratio_of P w K mg base cn) (F : FunD K "ratio_of" "ratio_of" (defArgs s_ratio_of) (defBody s_ratio_of) (defScope s_ratio_of) [(.int (1))] [] f fd) : Dx.FnR P w K mg base (L2.CX P w) 10 f (spF cn (dfl m_ratio_of (.int (1)))) := by
  have hb := FunD.binds1 (ps := ["top", "bottom"]) F 1 0 (by simp) (by rfl) fun _ _ _ _ _ _ _ us its h1 h2 => match us, its, h1, h2 with | [_], [_], _, _ => ⟨_, rfl, rfl⟩
  exact (Q_ratio_of hK G T F).dfl rfl rfl rfl hb
structure T_line_of (P : Program) (w : World) (K : PySem.W.Frag) (mg : Str → Option Value) (base : Heap) (cn : Cn) : Prop where
  u : True
theorem S_line_of : FnScope ["tops", "bottom", "modulus", "top", "share"] ["tops", "bottom", "modulus"] (defScope s_line_of) := ⟨rfl, rfl, rfl, by decide +kernel, rfl, by decide +kernel, by decide +kernel⟩
theorem R_line_of (hK : K = cn.K) (G : Gs K mg) (T : T_line_of P w K mg base cn) (F : FunD K "line_of" "line_of" (defArgs s_line_of) (defBody s_line_of) (defScope s_line_of) [] [] f fd) : Dx.FnR P w K mg base (L2.CX P w) 2 f (spF cn m_line_of) :=
  fn0 (k := 1) hK F S_line_of (FunD.bindsN F fun _ _ _ _ _ _ us hl => match us, hl with | [_, _, _], _ => rfl) fun cdv A outer s H E c Z =>
    (dss_cons (ds_if (t_gt (e_var 2) de_int) (dss_one (ds_ret (de_tup (da_cons (de_frz (do_lc (own := [("top", 3)]) Z.calm Z.nd (r_list Z (e_var 0)) (blkOk_by (N := ["tops", "bottom", "modulus", "top", "share"]) (sc := defScope s_line_of) (own := [("top", 3)]) (by decide +kernel)) (by decide) (fun s H C cl fp => (dg_name (g_nm 3 Z.nd))) (fun s H C cl fp c1 h1 => dts_nil) (fun s H C cl fp c1 h1 => (e_mod (e_var 3) (e_var 2))))) (da_cons de_int da_nil))))) dss_nil)
    (dss_cons (ds_set (g_name 4 Z) (e_var 1))
    (dss_cons (ds_for Z.pass Z.calm (r_list Z (e_var 0)) (dg_name (g_nm 3 Z.nd)) (dss_one (ds_set (g_name 4 Z) (e_gcd G.b_gcd (e_var 4) (e_var 3)))))
    (dss_cons (ds_set (g_name 4 Z) (de_ifExp (t_lt (e_var 1) de_int) (e_neg (e_var 4)) (e_var 4)))
    (dss_one (ds_ret (de_ifExp (t_ne Z (e_var 4) de_int) (de_tup (da_cons (de_frz (do_lc (own := [("top", 3)]) Z.calm Z.nd (r_list Z (e_var 0)) (blkOk_by (N := ["tops", "bottom", "modulus", "top", "share"]) (sc := defScope s_line_of) (own := [("top", 3)]) (by decide +kernel)) (by decide) (fun s H C cl fp => (dg_name (g_nm 3 Z.nd))) (fun s H C cl fp c1 h1 => dts_nil) (fun s H C cl fp c1 h1 => (e_div (e_var 3) (e_var 4))))) (da_cons (e_div (e_var 1) (e_var 4)) da_nil))) (de_tup (da_cons (de_frz (do_list Z.hK G.f_list (e_var 0))) (da_cons (e_var 1) da_nil))))))))))
structure T_line_of_pairs (P : Program) (w : World) (K : PySem.W.Frag) (mg : Str → Option Value) (base : Heap) (cn : Cn) : Prop where
  d_line_of : Cal P w K mg base cn 2 "line_of" m_line_of
theorem S_line_of_pairs : FnScope ["pairs", "shared", "top", "bottom"] ["pairs"] (defScope s_line_of_pairs) := ⟨rfl, rfl, rfl, by decide +kernel, rfl, by decide +kernel, by decide +kernel⟩
theorem R_line_of_pairs (hK : K = cn.K) (G : Gs K mg) (T : T_line_of_pairs P w K mg base cn) (F : FunD K "line_of_pairs" "line_of_pairs" (defArgs s_line_of_pairs) (defBody s_line_of_pairs) (defScope s_line_of_pairs) [] [] f fd) : Dx.FnR P w K mg base (L2.CX P w) 4 f (spF cn m_line_of_pairs) :=
  fn0 (k := 3) hK F S_line_of_pairs (FunD.bindsN F fun _ _ _ _ _ _ us hl => match us, hl with | [_], _ => rfl) fun cdv A outer s H E c Z =>
    (dss_cons (ds_set (g_name 1 Z) de_int)
    (dss_cons (ds_for Z.pass Z.calm (r_list Z (e_var 0)) (dg_tup Z.calm Z.hK (dgs_cons (dg_name (g_nm 2 Z.nd)) (dgs_cons (dg_name (g_nm 3 Z.nd)) dgs_nil))) (dss_one (ds_set (g_name 1 Z) (e_div (e_mul Z (e_var 1) (e_var 3)) (e_gcd G.b_gcd (e_var 1) (e_var 3))))))
    (dss_one (ds_ret (e_call Z T.d_line_of (by decide) (da_cons (de_frz (do_lc (own := [("top", 2), ("bottom", 3)]) Z.calm Z.nd (r_list Z (e_var 0)) (blkOk_by (N := ["pairs", "shared", "top", "bottom"]) (sc := defScope s_line_of_pairs) (own := [("top", 2), ("bottom", 3)]) (by decide +kernel)) (by decide) (fun s H C cl fp => (dg_tup Z.calm Z.hK (dgs_cons (dg_name (g_nm 2 Z.nd)) (dgs_cons (dg_name (g_nm 3 Z.nd)) dgs_nil)))) (fun s H C cl fp c1 h1 => dts_nil) (fun s H C cl fp c1 h1 => (e_mul (Ctx.blk Z h1 s H _ _ fp) (e_var 2) (e_div (e_var 1) (e_var 3)))))) (da_cons (e_var 1) (da_cons de_int da_nil))))))))
structure T_is_integer (P : Program) (w : World) (K : PySem.W.Frag) (mg : Str → Option Value) (base : Heap) (cn : Cn) : Prop where
  d_is_short : Cal P w K mg base cn 4 "is_short" m_is_short
theorem S_is_integer : FnScope ["value"] ["value"] (defScope s_is_integer) := ⟨rfl, rfl, rfl, by decide +kernel, rfl, by decide +kernel, by decide +kernel⟩
theorem R_is_integer (hK : K = cn.K) (G : Gs K mg) (T : T_is_integer P w K mg base cn) (F : FunD K "is_integer" "is_integer" (defArgs s_is_integer) (defBody s_is_integer) (defScope s_is_integer) [] [] f fd) : Dx.FnR P w K mg base (L2.CX P w) 6 f (spF cn m_is_integer) :=
  fn0 (k := 5) hK F S_is_integer (FunD.bindsN F fun _ _ _ _ _ _ us hl => match us, hl with | [_], _ => rfl) fun cdv A outer s H E c Z =>
    (dss_one (ds_ret (e_call Z T.d_is_short (by decide) (da_cons (e_var 0) da_nil))))
structure T_require_modulus (P : Program) (w : World) (K : PySem.W.Frag) (mg : Str → Option Value) (base : Heap) (cn : Cn) : Prop where
  d_is_integer : Cal P w K mg base cn 6 "is_integer" m_is_integer
  r_InvalidModulus : Xe0 K mg cn "InvalidModulus" 6
theorem S_require_modulus : FnScope ["value"] ["value"] (defScope s_require_modulus) := ⟨rfl, rfl, rfl, by decide +kernel, rfl, by decide +kernel, by decide +kernel⟩
theorem R_require_modulus (hK : K = cn.K) (G : Gs K mg) (T : T_require_modulus P w K mg base cn) (F : FunD K "require_modulus" "require_modulus" (defArgs s_require_modulus) (defBody s_require_modulus) (defScope s_require_modulus) [] [] f fd) : Dx.FnR P w K mg base (L2.CX P w) 8 f (spF cn m_require_modulus) :=
  fn0 (k := 7) hK F S_require_modulus (FunD.bindsN F fun _ _ _ _ _ _ us hl => match us, hl with | [_], _ => rfl) fun cdv A outer s H E c Z =>
    (dss_one (ds_if (dt_w (dw_or (dt_not (t_tru Z (e_call Z T.d_is_integer (by decide) (da_cons (e_var 0) da_nil)))) (dw_or (t_lt (e_var 0) de_int) (dw_or (t_eqX Z (e_var 0) de_int) (dw_or1 (t_gt (e_var 0) (de_gint (by rfl) G.c_MOST_MODULUS))))))) (dss_one (s_raise0 Z T.r_InvalidModulus)) dss_nil))
structure T_is_number (P : Program) (w : World) (K : PySem.W.Frag) (mg : Str → Option Value) (base : Heap) (cn : Cn) : Prop where
  d_is_integer : Cal P w K mg base cn 6 "is_integer" m_is_integer
  j_Ratio : ∃ C, mg "Ratio" = some (.ref C) ∧ IsiOk cn C tj_Ratio
theorem S_is_number : FnScope ["value"] ["value"] (defScope s_is_number) := ⟨rfl, rfl, rfl, by decide +kernel, rfl, by decide +kernel, by decide +kernel⟩
theorem R_is_number (hK : K = cn.K) (G : Gs K mg) (T : T_is_number P w K mg base cn) (F : FunD K "is_number" "is_number" (defArgs s_is_number) (defBody s_is_number) (defScope s_is_number) [] [] f fd) : Dx.FnR P w K mg base (L2.CX P w) 8 f (spF cn m_is_number) :=
  fn0 (k := 7) hK F S_is_number (FunD.bindsN F fun _ _ _ _ _ _ us hl => match us, hl with | [_], _ => rfl) fun cdv A outer s H E c Z =>
    (dss_one (ds_ret (de_or (e_isi Z T.j_Ratio G.f_isinstance (e_var 0)) (de_one (e_call Z T.d_is_integer (by decide) (da_cons (e_var 0) da_nil))))))
structure T_number_pair (P : Program) (w : World) (K : PySem.W.Frag) (mg : Str → Option Value) (base : Heap) (cn : Cn) : Prop where
  j_Ratio : ∃ C, mg "Ratio" = some (.ref C) ∧ IsiOk cn C tj_Ratio
  a_own_bottom : AttrOk cn "own_bottom" ta_own_bottom
  a_own_top : AttrOk cn "own_top" ta_own_top
theorem S_number_pair : FnScope ["value"] ["value"] (defScope s_number_pair) := ⟨rfl, rfl, rfl, by decide +kernel, rfl, by decide +kernel, by decide +kernel⟩
theorem R_number_pair (hK : K = cn.K) (G : Gs K mg) (T : T_number_pair P w K mg base cn) (F : FunD K "number_pair" "number_pair" (defArgs s_number_pair) (defBody s_number_pair) (defScope s_number_pair) [] [] f fd) : Dx.FnR P w K mg base (L2.CX P w) 2 f (spF cn m_number_pair) :=
  fn0 (k := 1) hK F S_number_pair (FunD.bindsN F fun _ _ _ _ _ _ us hl => match us, hl with | [_], _ => rfl) fun cdv A outer s H E c Z =>
    (dss_one (ds_ret (de_ifExp (t_tru Z (e_isi Z T.j_Ratio G.f_isinstance (e_var 0))) (de_tup (da_cons (e_attr Z T.a_own_top (e_var 0)) (da_cons (e_attr Z T.a_own_bottom (e_var 0)) da_nil))) (de_tup (da_cons (e_var 0) (da_cons de_int da_nil))))))
structure T_is_number_of (P : Program) (w : World) (K : PySem.W.Frag) (mg : Str → Option Value) (base : Heap) (cn : Cn) : Prop where
  d_is_integer : Cal P w K mg base cn 6 "is_integer" m_is_integer
  j_Ratio : ∃ C, mg "Ratio" = some (.ref C) ∧ IsiOk cn C tj_Ratio
theorem S_is_number_of : FnScope ["modulus", "value"] ["modulus", "value"] (defScope s_is_number_of) := ⟨rfl, rfl, rfl, by decide +kernel, rfl, by decide +kernel, by decide +kernel⟩
theorem R_is_number_of (hK : K = cn.K) (G : Gs K mg) (T : T_is_number_of P w K mg base cn) (F : FunD K "is_number_of" "is_number_of" (defArgs s_is_number_of) (defBody s_is_number_of) (defScope s_is_number_of) [] [] f fd) : Dx.FnR P w K mg base (L2.CX P w) 8 f (spF cn m_is_number_of) :=
  fn0 (k := 7) hK F S_is_number_of (FunD.bindsN F fun _ _ _ _ _ _ us hl => match us, hl with | [_, _], _ => rfl) fun cdv A outer s H E c Z =>
    (dss_one (ds_ret (de_or (e_call Z T.d_is_integer (by decide) (da_cons (e_var 1) da_nil)) (de_one (de_and (e_eqX Z (e_var 0) de_int) (de_one (e_isi Z T.j_Ratio G.f_isinstance (e_var 1))))))))
structure T_line_told (P : Program) (w : World) (K : PySem.W.Frag) (mg : Str → Option Value) (base : Heap) (cn : Cn) : Prop where
  d_is_number : Cal P w K mg base cn 8 "is_number" m_is_number
  d_is_number_of : Cal P w K mg base cn 8 "is_number_of" m_is_number_of
  d_line_of : Cal P w K mg base cn 2 "line_of" m_line_of
  d_line_of_pairs : Cal P w K mg base cn 4 "line_of_pairs" m_line_of_pairs
  d_number_pair : Cal P w K mg base cn 2 "number_pair" m_number_pair
  d_require_modulus : Cal P w K mg base cn 8 "require_modulus" m_require_modulus
  ik : IskOk cn tkT
  j_Made : ∃ C, mg "Made" = some (.ref C) ∧ IsiOk cn C tj_Made
  r_InvalidRow : Xe0 K mg cn "InvalidRow" 7
  a_own_line : AttrOk cn "own_line" ta_own_line
theorem S_line_told : FnScope ["entries", "modulus", "entry"] ["entries", "modulus"] (defScope s_line_told) := ⟨rfl, rfl, rfl, by decide +kernel, rfl, by decide +kernel, by decide +kernel⟩
theorem R_line_told (hK : K = cn.K) (G : Gs K mg) (T : T_line_told P w K mg base cn) (F : FunD K "line_told" "line_told" (defArgs s_line_told) (defBody s_line_told) (defScope s_line_told) [] [] f fd) : Dx.FnR P w K mg base (L2.CX P w) 10 f (spF cn m_line_told) :=
  fn0 (k := 9) hK F S_line_told (FunD.bindsN F fun _ _ _ _ _ _ us hl => match us, hl with | [_, _], _ => rfl) fun cdv A outer s H E c Z =>
    (dss_cons (ds_if (t_tru Z (e_isi Z T.j_Made G.f_isinstance (e_var 0))) (dss_one (ds_ret (e_attr Z T.a_own_line (e_var 0)))) dss_nil)
    (dss_cons (ds_if (dt_w (dw_or (dt_not (t_tru Z (e_isiK 3 (by decide) Z T.ik G.f_isinstance (e_var 0) G.f_tuple))) (dw_or1 (dt_not (dt_chain op_le ok_cmpI op_le ok_cmpI de_int (e_len Z G.f_len (e_var 0)) (e_add Z (de_gint (by rfl) G.c_MAX_ROW) de_int)))))) (dss_one (s_raise0 Z T.r_InvalidRow)) dss_nil)
    (dss_cons (ds_if (dt_not (t_tru Z (e_all Z G.f_all (de_frz (do_lc (own := [("entry", 2)]) Z.calm Z.nd (r_list Z (e_var 0)) (blkOk_by (N := ["entries", "modulus", "entry"]) (sc := defScope s_line_told) (own := [("entry", 2)]) (by decide +kernel)) (by decide) (fun s H C cl fp => (dg_name (g_nm 2 Z.nd))) (fun s H C cl fp c1 h1 => dts_nil) (fun s H C cl fp c1 h1 => (e_call (Ctx.blk Z h1 s H _ _ fp) T.d_is_number (by decide) (da_cons (e_var 2) da_nil)))))))) (dss_one (s_raise0 Z T.r_InvalidRow)) dss_nil)
    (dss_cons (ds_expr (e_call Z T.d_require_modulus (by decide) (da_cons (e_var 1) da_nil)))
    (dss_cons (ds_if (dt_not (t_tru Z (e_all Z G.f_all (de_frz (do_lc (own := [("entry", 2)]) Z.calm Z.nd (r_list Z (e_var 0)) (blkOk_by (N := ["entries", "modulus", "entry"]) (sc := defScope s_line_told) (own := [("entry", 2)]) (by decide +kernel)) (by decide) (fun s H C cl fp => (dg_name (g_nm 2 Z.nd))) (fun s H C cl fp c1 h1 => dts_nil) (fun s H C cl fp c1 h1 => (e_call (Ctx.blk Z h1 s H _ _ fp) T.d_is_number_of (by decide) (da_cons (e_var 1) (da_cons (e_var 2) da_nil))))))))) (dss_one (s_raise0 Z T.r_InvalidRow)) dss_nil)
    (dss_cons (ds_if (t_gt (e_var 1) de_int) (dss_one (ds_ret (e_call Z T.d_line_of (by decide) (da_cons (de_frz (do_list Z.hK G.f_list (e_var 0))) (da_cons de_int (da_cons (e_var 1) da_nil)))))) dss_nil)
    (dss_one (ds_ret (e_call Z T.d_line_of_pairs (by decide) (da_cons (de_frz (do_lc (own := [("entry", 2)]) Z.calm Z.nd (r_list Z (e_var 0)) (blkOk_by (N := ["entries", "modulus", "entry"]) (sc := defScope s_line_told) (own := [("entry", 2)]) (by decide +kernel)) (by decide) (fun s H C cl fp => (dg_name (g_nm 2 Z.nd))) (fun s H C cl fp c1 h1 => dts_nil) (fun s H C cl fp c1 h1 => (e_call (Ctx.blk Z h1 s H _ _ fp) T.d_number_pair (by decide) (da_cons (e_var 2) da_nil))))) da_nil))))))))))
structure T_Row_init (P : Program) (w : World) (K : PySem.W.Frag) (mg : Str → Option Value) (base : Heap) (cn : Cn) : Prop where
  d_line_told : Cal P w K mg base cn 10 "line_told" m_line_told
  d_ratio_of : Cal P w K mg base cn 10 "ratio_of" m_ratio_of
  a_own_bottom : AttrOk cn "own_bottom" ta_own_bottom
  a_own_entries : AttrOk cn "own_entries" ta_own_entries
  a_own_modulus : AttrOk cn "own_modulus" ta_own_modulus
  a_own_order : AttrOk cn "own_order" ta_own_order
  a_own_tops : AttrOk cn "own_tops" ta_own_tops
theorem S_Row_init : FnScope ["self", "entries", "modulus", "line", "tops", "bottom", "top"] ["self", "entries", "modulus"] (defScope s_Row_init) := ⟨rfl, rfl, rfl, by decide +kernel, rfl, by decide +kernel, by decide +kernel⟩
theorem Q_Row_init (hK : K = cn.K) (G : Gs K mg) (T : T_Row_init P w K mg base cn) (TB : TabG' base K mg cn f) (F : FunD K "__init__" "Row.__init__" (defArgs s_Row_init) (defBody s_Row_init) (defScope s_Row_init) [] [("modulus", (.int (0)))] f fd) : OkI P w K mg base cn 12 f fd ["self", "entries", "modulus"] 3 i_Row :=
  io1C (k := 11) hK F TB.c S_Row_init fun A outer s H E c Z =>
    (dss_cons (ds_set (g_name 3 Z) (e_call Z T.d_line_told (by decide) (da_cons (e_var 1) (da_cons (e_var 2) da_nil))))
    (dss_cons (ds_asg (de_tup (da_cons (e_tuple Z G.f_tuple (e_ix Z (e_var 3) de_int)) (da_cons (e_ix Z (e_var 3) de_int) da_nil))) (dg_tup Z.calm Z.hK (dgs_cons (dg_name (g_nm 4 Z.nd)) (dgs_cons (dg_name (g_nm 5 Z.nd)) dgs_nil))))
    (dss_cons (s_self (i := 0) Z T.a_own_tops (pv 0) (e_var 4))
    (dss_cons (s_self (i := 0) Z T.a_own_bottom (pv 0) (e_var 5))
    (dss_cons (s_self (i := 0) Z T.a_own_modulus (pv 0) (e_var 2))
    (dss_cons (s_self (i := 0) Z T.a_own_order (pv 0) (de_next Z TB.tb rfl TB.g TB.q (genS_by (show genSB _ _ _ = true by decide +kernel)) (e_var 4) G.f_next G.f_enumerate))
    (dss_one (s_self (i := 0) Z T.a_own_entries (pv 0) (de_ifExp (t_gt (e_var 2) de_int) (e_var 4) (e_tuple Z G.f_tuple (de_frz (do_lc (own := [("top", 6)]) Z.calm Z.nd (r_list Z (e_var 4)) (blkOk_by (N := ["self", "entries", "modulus", "line", "tops", "bottom", "top"]) (sc := defScope s_Row_init) (own := [("top", 6)]) (by decide +kernel)) (by decide) (fun s H C cl fp => (dg_name (g_nm 6 Z.nd))) (fun s H C cl fp c1 h1 => dts_nil) (fun s H C cl fp c1 h1 => (e_call (Ctx.blk Z h1 s H _ _ fp) T.d_ratio_of (by decide) (da_cons (e_var 6) (da_cons (e_var 5) da_nil))))))))))))))))
theorem D_Row_init (hK : K = cn.K) (G : Gs K mg) (T : T_Row_init P w K mg base cn) (TB : TabG' base K mg cn f) (F : FunD K "__init__" "Row.__init__" (defArgs s_Row_init) (defBody s_Row_init) (defScope s_Row_init) [] [("modulus", (.int (0)))] f fd) : Dx.FnR P w K mg base (L2.CX P w) 12 f (spI cn 3 (dfl i_Row (.int (0)))) := by
  have hb := FunD.binds0 (ps := ["self", "entries", "modulus"]) F 2 (by simp) (by rfl) fun _ _ _ _ _ _ us ks h1 h2 => match us, ks, h1, h2 with | [_, _], [_], _, _ => ⟨_, _, _, _, _, _, rfl, rfl, rfl⟩
  exact (Q_Row_init hK G T TB F).dfl rfl rfl rfl hb
theorem W_Row_init (hK : K = cn.K) (G : Gs K mg) (T : T_Row_init P w K mg base cn) (TB : TabG' base K mg cn f) (F : FunD K "__init__" "Row.__init__" (defArgs s_Row_init) (defBody s_Row_init) (defScope s_Row_init) [] [("modulus", (.int (0)))] f fd) : Dx.FnRK P w K mg base (L2.CX P w) 12 f 2 ["modulus"] (spI cn 3 i_Row) := by
  obtain ⟨mv, hb⟩ := FunD.kbinds0 (ps := ["self", "entries", "modulus"]) F 2 ["modulus"] [] (fun us mv ws => us ++ ws) (by simp) (by simp) (fun a _ b => a.append b) fun _ _ _ _ _ _ us mv ws h1 h2 h3 => match us, mv, ws, h1, h2, h3 with | [_, _], [], [_], _, _, _ => rfl
  exact (Q_Row_init hK G T TB F).kw hb rfl
structure T__law_rw_made (P : Program) (w : World) (K : PySem.W.Frag) (mg : Str → Option Value) (base : Heap) (cn : Cn) : Prop where
  K_Row : Mkr P w K mg base cn 12 "Row" 3 (dfl i_Row (.int (0)))
  k_Ratio : Mkr P w K mg base cn 8 "Ratio" 1 i_Ratio
theorem S__law_rw_made : FnScope ["_law_row", "_law_top", "_law_bottom"] ["_law_row"] (defScope s__law_rw_made) := ⟨rfl, rfl, rfl, by decide +kernel, rfl, by decide +kernel, by decide +kernel⟩
theorem R__law_rw_made (hK : K = cn.K) (G : Gs K mg) (T : T__law_rw_made P w K mg base cn) (F : FunD K "_law_rw_made" "_law_rw_made" (defArgs s__law_rw_made) (defBody s__law_rw_made) (defScope s__law_rw_made) [] [] f fd) : Dx.FnR P w K mg base (L2.CX P w) 14 f (spF cn m__law_rw_made) :=
  fn0 (k := 13) hK F S__law_rw_made (FunD.bindsN F fun _ _ _ _ _ _ us hl => match us, hl with | [_], _ => rfl) fun cdv A outer s H E c Z =>
    (dss_one (ds_ret (e_make Z T.K_Row (by decide) (da_cons (e_tuple Z G.f_tuple (de_frz (do_lc (own := [("_law_top", 1), ("_law_bottom", 2)]) Z.calm Z.nd (r_list Z (e_var 0)) (blkOk_by (N := ["_law_row", "_law_top", "_law_bottom"]) (sc := defScope s__law_rw_made) (own := [("_law_top", 1), ("_law_bottom", 2)]) (by decide +kernel)) (by decide) (fun s H C cl fp => (dg_tup Z.calm Z.hK (dgs_cons (dg_name (g_nm 1 Z.nd)) (dgs_cons (dg_name (g_nm 2 Z.nd)) dgs_nil)))) (fun s H C cl fp c1 h1 => dts_nil) (fun s H C cl fp c1 h1 => (e_make (Ctx.blk Z h1 s H _ _ fp) T.k_Ratio (by decide) (da_cons (e_var 1) (da_cons (e_var 2) da_nil))))))) da_nil))))
structure T__law_gcd (P : Program) (w : World) (K : PySem.W.Frag) (mg : Str → Option Value) (base : Heap) (cn : Cn) : Prop where
  u : True
theorem S__law_gcd : FnScope ["_law_one", "_law_other"] ["_law_one", "_law_other"] (defScope s__law_gcd) := ⟨rfl, rfl, rfl, by decide +kernel, rfl, by decide +kernel, by decide +kernel⟩
theorem R__law_gcd (hK : K = cn.K) (G : Gs K mg) (T : T__law_gcd P w K mg base cn) (F : FunD K "_law_gcd" "_law_gcd" (defArgs s__law_gcd) (defBody s__law_gcd) (defScope s__law_gcd) [] [] f fd) : Dx.FnR P w K mg base (L2.CX P w) 2 f (spF cn m__law_gcd) :=
  fn0 (k := 1) hK F S__law_gcd (FunD.bindsN F fun _ _ _ _ _ _ us hl => match us, hl with | [_, _], _ => rfl) fun cdv A outer s H E c Z =>
    (dss_cons (ds_par (i := 0) (j := 1) Z.calm Z.nd rfl rfl (by decide) rfl rfl (da_cons (e_abs G.f_abs (e_var 0)) (da_cons (e_abs G.f_abs (e_var 1)) da_nil)) (by rfl))
    (dss_cons (ds_while 20000 Z.pass (t_gt (e_var 1) de_int) (dss_one (ds_par (i := 0) (j := 1) Z.calm Z.nd rfl rfl (by decide) rfl rfl (da_cons (e_var 1) (da_cons (e_mod (e_int G.f_int (e_var 0)) (e_var 1)) da_nil)) (by rfl))))
    (dss_one (ds_ret (e_var 0)))))
structure T__law_ratio (P : Program) (w : World) (K : PySem.W.Frag) (mg : Str → Option Value) (base : Heap) (cn : Cn) : Prop where
  d__law_gcd : Cal P w K mg base cn 2 "_law_gcd" m__law_gcd
theorem S__law_ratio : FnScope ["_law_top", "_law_bottom", "_law_shared"] ["_law_top", "_law_bottom"] (defScope s__law_ratio) := ⟨rfl, rfl, rfl, by decide +kernel, rfl, by decide +kernel, by decide +kernel⟩
theorem R__law_ratio (hK : K = cn.K) (G : Gs K mg) (T : T__law_ratio P w K mg base cn) (F : FunD K "_law_ratio" "_law_ratio" (defArgs s__law_ratio) (defBody s__law_ratio) (defScope s__law_ratio) [] [] f fd) : Dx.FnR P w K mg base (L2.CX P w) 4 f (spF cn m__law_ratio) :=
  fn0 (k := 3) hK F S__law_ratio (FunD.bindsN F fun _ _ _ _ _ _ us hl => match us, hl with | [_, _], _ => rfl) fun cdv A outer s H E c Z =>
    (dss_cons (ds_set (g_name 2 Z) (e_call Z T.d__law_gcd (by decide) (da_cons (e_var 0) (da_cons (e_var 1) da_nil))))
    (dss_cons (ds_if (t_lt (e_var 1) de_int) (dss_one (ds_set (g_name 2 Z) (e_neg (e_var 2)))) dss_nil)
    (dss_one (ds_ret (de_tup (da_cons (e_div (e_var 0) (e_var 2)) (da_cons (e_div (e_var 1) (e_var 2)) da_nil)))))))
structure T__law_rw_fraction (P : Program) (w : World) (K : PySem.W.Frag) (mg : Str → Option Value) (base : Heap) (cn : Cn) : Prop where
  d__law_pick : Cal P w K mg base cn 4 "_law_pick" m__law_pick
  d__law_ratio : Cal P w K mg base cn 4 "_law_ratio" m__law_ratio
  d__law_roll : Cal P w K mg base cn 2 "_law_roll" m__law_roll
theorem S__law_rw_fraction : FnScope ["_law_dice_here", "_law_most", "_law_bottom"] ["_law_dice_here", "_law_most"] (defScope s__law_rw_fraction) := ⟨rfl, rfl, rfl, by decide +kernel, rfl, by decide +kernel, by decide +kernel⟩
theorem R__law_rw_fraction (hK : K = cn.K) (G : Gs K mg) (T : T__law_rw_fraction P w K mg base cn) (F : FunD K "_law_rw_fraction" "_law_rw_fraction" (defArgs s__law_rw_fraction) (defBody s__law_rw_fraction) (defScope s__law_rw_fraction) [] [] f fd) : Dx.FnR P w K mg base (L2.CX P w) 6 f (spF cn m__law_rw_fraction) :=
  fn0 (k := 5) hK F S__law_rw_fraction (FunD.bindsN F fun _ _ _ _ _ _ us hl => match us, hl with | [_, _], _ => rfl) fun cdv A outer s H E c Z =>
    (dss_cons (ds_set (g_name 2 Z) (e_call Z T.d__law_pick (by decide) (da_cons (e_var 0) (da_cons (de_frz (do_lst (da_cons de_int (da_cons de_int (da_cons de_int (da_cons de_int (da_cons de_int (da_cons de_int (da_cons de_int (da_cons de_int da_nil)))))))))) da_nil))))
    (dss_one (ds_ret (e_call Z T.d__law_ratio (by decide) (da_cons (e_sub (e_call Z T.d__law_roll (by decide) (da_cons (e_var 0) (da_cons (e_add Z (e_mul Z de_int (e_var 1)) de_int) da_nil))) (e_var 1)) (da_cons (e_var 2) da_nil))))))
structure T__law_rw_drawn (P : Program) (w : World) (K : PySem.W.Frag) (mg : Str → Option Value) (base : Heap) (cn : Cn) : Prop where
  d__law_roll : Cal P w K mg base cn 2 "_law_roll" m__law_roll
  d__law_rw_fraction : Cal P w K mg base cn 6 "_law_rw_fraction" m__law_rw_fraction
theorem S__law_rw_drawn : FnScope ["_law_dice_here", "_law_degree", "_law_most", "_law_turn"] ["_law_dice_here", "_law_degree", "_law_most"] (defScope s__law_rw_drawn) := ⟨rfl, rfl, rfl, by decide +kernel, rfl, by decide +kernel, by decide +kernel⟩
theorem R__law_rw_drawn (hK : K = cn.K) (G : Gs K mg) (T : T__law_rw_drawn P w K mg base cn) (F : FunD K "_law_rw_drawn" "_law_rw_drawn" (defArgs s__law_rw_drawn) (defBody s__law_rw_drawn) (defScope s__law_rw_drawn) [] [] f fd) : Dx.FnR P w K mg base (L2.CX P w) 8 f (spF cn m__law_rw_drawn) :=
  fn0 (k := 7) hK F S__law_rw_drawn (FunD.bindsN F fun _ _ _ _ _ _ us hl => match us, hl with | [_, _, _], _ => rfl) fun cdv A outer s H E c Z =>
    (dss_one (ds_ret (de_frz (do_lc (own := [("_law_turn", 3)]) Z.calm Z.nd (di_range1 (by rfl) G.f_range (da_cons (e_add Z (e_var 1) de_int) da_nil)) (blkOk_by (N := ["_law_dice_here", "_law_degree", "_law_most", "_law_turn"]) (sc := defScope s__law_rw_drawn) (own := [("_law_turn", 3)]) (by decide +kernel)) (by decide) (fun s H C cl fp => (dg_name (g_nm 3 Z.nd))) (fun s H C cl fp c1 h1 => dts_nil) (fun s H C cl fp c1 h1 => (de_ifExp (t_gt (e_call (Ctx.blk Z h1 s H _ _ fp) T.d__law_roll (by decide) (da_cons (e_var 0) (da_cons de_int da_nil))) de_int) (e_call (Ctx.blk Z h1 s H _ _ fp) T.d__law_rw_fraction (by decide) (da_cons (e_var 0) (da_cons (e_var 2) da_nil))) (de_tup (da_cons de_int (da_cons de_int da_nil)))))))))
structure T_Ratio___str__ (P : Program) (w : World) (K : PySem.W.Frag) (mg : Str → Option Value) (base : Heap) (cn : Cn) : Prop where
  a_own_bottom : AttrOk cn "own_bottom" ta_own_bottom
  a_own_top : AttrOk cn "own_top" ta_own_top
theorem S_Ratio___str__ : FnScope ["self"] ["self"] (defScope s_Ratio___str__) := ⟨rfl, rfl, rfl, by decide +kernel, rfl, by decide +kernel, by decide +kernel⟩
theorem R_Ratio___str__ (hK : K = cn.K) (G : Gs K mg) (T : T_Ratio___str__ P w K mg base cn) (F : FunD K "__str__" "Ratio.__str__" (defArgs s_Ratio___str__) (defBody s_Ratio___str__) (defScope s_Ratio___str__) [] [] f fd) : Dx.FnR P w K mg base (L2.CX P w) 2 f (spF cn m_Ratio___str__) :=
  fn0 (k := 1) hK F S_Ratio___str__ (FunD.bindsN F fun _ _ _ _ _ _ us hl => match us, hl with | [_], _ => rfl) fun cdv A outer s H E c Z =>
    (dss_cons (ds_if (t_eqX Z (e_attr Z T.a_own_bottom (e_var 0)) de_int) (dss_one (ds_ret (de_joined1 (de_fmt (e_attr Z T.a_own_top (e_var 0)))))) dss_nil)
    (dss_one (ds_ret (de_joined (.cons (de_fmt (e_attr Z T.a_own_top (e_var 0))) (.cons de_str (.cons (de_fmt (e_attr Z T.a_own_bottom (e_var 0))) DJ.nil)))))))
structure T_term_text (P : Program) (w : World) (K : PySem.W.Frag) (mg : Str → Option Value) (base : Heap) (cn : Cn) : Prop where
  u : True
theorem S_term_text : FnScope ["place", "top", "bottom", "number", "power"] ["place", "top", "bottom"] (defScope s_term_text) := ⟨rfl, rfl, rfl, by decide +kernel, rfl, by decide +kernel, by decide +kernel⟩
theorem R_term_text (hK : K = cn.K) (G : Gs K mg) (T : T_term_text P w K mg base cn) (F : FunD K "term_text" "term_text" (defArgs s_term_text) (defBody s_term_text) (defScope s_term_text) [] [] f fd) : Dx.FnR P w K mg base (L2.CX P w) 3 f (spF cn m_term_text) :=
  fn0 (k := 2) hK F S_term_text (FunD.bindsN F fun _ _ _ _ _ _ us hl => match us, hl with | [_, _, _], _ => rfl) fun cdv A outer s H E c Z =>
    (dss_cons (ds_set (g_name 3 Z) (de_ifExp (t_eqX Z (e_var 2) de_int) (e_str Z strOk0 (by decide) G.f_str (e_var 1)) (de_joined (.cons (de_fmt (e_var 1)) (.cons de_str (.cons (de_fmt (e_var 2)) DJ.nil))))))
    (dss_cons (ds_set (g_name 4 Z) (de_ifExp (t_eqX Z (e_var 0) de_int) de_str (de_joined (.cons de_str (.cons (de_fmt (e_var 0)) DJ.nil)))))
    (dss_cons (ds_if (t_eqX Z (e_var 0) de_int) (dss_one (ds_ret (e_var 3))) dss_nil)
    (dss_one (ds_ret (de_ifExp (t_eqX Z (e_var 3) de_str) (e_var 4) (de_joined (.cons (de_fmt (e_var 3)) (.cons de_str (.cons (de_fmt (e_var 4)) DJ.nil))))))))))
structure T_row_text (P : Program) (w : World) (K : PySem.W.Frag) (mg : Str → Option Value) (base : Heap) (cn : Cn) : Prop where
  d_term_text : Cal P w K mg base cn 3 "term_text" m_term_text
theorem S_row_text : FnScope ["tops", "bottom", "modulus", "found", "place", "top", "share", "text", "ahead", "told"] ["tops", "bottom", "modulus"] (defScope s_row_text) := ⟨rfl, rfl, rfl, by decide +kernel, rfl, by decide +kernel, by decide +kernel⟩
theorem R_row_text (hK : K = cn.K) (G : Gs K mg) (T : T_row_text P w K mg base cn) (F : FunD K "row_text" "row_text" (defArgs s_row_text) (defBody s_row_text) (defScope s_row_text) [] [] f fd) : Dx.FnR P w K mg base (L2.CX P w) 5 f (spF cn m_row_text) :=
  fn0 (k := 4) hK F S_row_text (FunD.bindsN F fun _ _ _ _ _ _ us hl => match us, hl with | [_, _, _], _ => rfl) fun cdv A outer s H E c Z =>
    (dss_cons (ds_set (g_name 3 Z) de_str)
    (dss_cons (ds_for Z.pass Z.calm (di_enumA Z.hK (by rfl) G.f_enumerate (da_cons (e_var 0) da_nil)) (dg_tup Z.calm Z.hK (dgs_cons (dg_name (g_nm 4 Z.nd)) (dgs_cons (dg_name (g_nm 5 Z.nd)) dgs_nil))) (dss_one (ds_if (t_ne Z (e_var 5) de_int) (dss_cons (ds_set (g_name 6 Z) (e_gcd G.b_gcd (e_var 5) (e_var 1)))
    (dss_cons (ds_set (g_name 7 Z) (e_call Z T.d_term_text (by decide) (da_cons (e_var 4) (da_cons (e_div (e_abs G.f_abs (e_var 5)) (e_var 6)) (da_cons (e_div (e_var 1) (e_var 6)) da_nil)))))
    (dss_cons (ds_set (g_name 8 Z) (de_ifExp (t_eqX Z (e_var 3) de_str) (de_ifExp (t_lt (e_var 5) de_int) de_str de_str) (de_ifExp (t_lt (e_var 5) de_int) de_str de_str)))
    (dss_one (ds_set (g_name 3 Z) (e_add Z (e_add Z (e_var 3) (e_var 8)) (e_var 7))))))) dss_nil)))
    (dss_cons (ds_set (g_name 9 Z) (de_ifExp (t_ne Z (e_var 3) de_str) (e_var 3) de_str))
    (dss_one (ds_ret (e_add Z (de_joined (.cons (de_fmt (e_var 9)) (.cons de_str (.cons (de_fmt (e_sub (e_len Z G.f_len (e_var 0)) de_int)) DJ.nil)))) (de_ifExp (t_gt (e_var 2) de_int) (de_joined (.cons de_str (.cons (de_fmt (e_var 2)) DJ.nil))) de_str)))))))
structure T_Row___str__ (P : Program) (w : World) (K : PySem.W.Frag) (mg : Str → Option Value) (base : Heap) (cn : Cn) : Prop where
  d_row_text : Cal P w K mg base cn 5 "row_text" m_row_text
  a_own_bottom : AttrOk cn "own_bottom" ta_own_bottom
  a_own_modulus : AttrOk cn "own_modulus" ta_own_modulus
  a_own_tops : AttrOk cn "own_tops" ta_own_tops
theorem S_Row___str__ : FnScope ["self"] ["self"] (defScope s_Row___str__) := ⟨rfl, rfl, rfl, by decide +kernel, rfl, by decide +kernel, by decide +kernel⟩
theorem R_Row___str__ (hK : K = cn.K) (G : Gs K mg) (T : T_Row___str__ P w K mg base cn) (F : FunD K "__str__" "Row.__str__" (defArgs s_Row___str__) (defBody s_Row___str__) (defScope s_Row___str__) [] [] f fd) : Dx.FnR P w K mg base (L2.CX P w) 7 f (spF cn m_Row___str__) :=
  fn0 (k := 6) hK F S_Row___str__ (FunD.bindsN F fun _ _ _ _ _ _ us hl => match us, hl with | [_], _ => rfl) fun cdv A outer s H E c Z =>
    (dss_one (ds_ret (de_joined1 (de_fmt (e_call Z T.d_row_text (by decide) (da_cons (e_attr Z T.a_own_tops (e_var 0)) (da_cons (e_attr Z T.a_own_bottom (e_var 0)) (da_cons (e_attr Z T.a_own_modulus (e_var 0)) da_nil))))))))
structure T__law_rw_text (P : Program) (w : World) (K : PySem.W.Frag) (mg : Str → Option Value) (base : Heap) (cn : Cn) : Prop where
  oeq : OeqOk P w mg base cn 2 teqT tkT
  ostr : StrOk P w mg base cn 7 tstT
theorem S__law_rw_text : FnScope ["_law_entries", "_law_modulus", "_law_found", "_law_at", "_law_entry", "_law_number", "_law_power"] ["_law_entries", "_law_modulus"] (defScope s__law_rw_text) := ⟨rfl, rfl, rfl, by decide +kernel, rfl, by decide +kernel, by decide +kernel⟩
theorem R__law_rw_text (hK : K = cn.K) (G : Gs K mg) (T : T__law_rw_text P w K mg base cn) (F : FunD K "_law_rw_text" "_law_rw_text" (defArgs s__law_rw_text) (defBody s__law_rw_text) (defScope s__law_rw_text) [] [] f fd) : Dx.FnR P w K mg base (L2.CX P w) 10 f (spF cn m__law_rw_text) :=
  fn0 (k := 9) hK F S__law_rw_text (FunD.bindsN F fun _ _ _ _ _ _ us hl => match us, hl with | [_, _], _ => rfl) fun cdv A outer s H E c Z =>
    (dss_cons (ds_set (g_name 2 Z) de_str)
    (dss_cons (ds_for Z.pass Z.calm (di_enumA Z.hK (by rfl) G.f_enumerate (da_cons (e_var 0) da_nil)) (dg_tup Z.calm Z.hK (dgs_cons (dg_name (g_nm 3 Z.nd)) (dgs_cons (dg_name (g_nm 4 Z.nd)) dgs_nil))) (dss_cons (ds_set (g_name 5 Z) (e_add Z (e_str Z T.ostr (by decide) G.f_str (e_abs G.f_abs (e_ix Z (e_var 4) de_int))) (de_ifExp (t_neY Z T.oeq (by decide) (e_ix Z (e_var 4) de_int) de_int) (e_add Z de_str (e_str Z T.ostr (by decide) G.f_str (e_ix Z (e_var 4) de_int))) de_str)))
    (dss_cons (ds_set (g_name 6 Z) (de_ifExp (t_eqY Z T.oeq (by decide) (e_var 3) de_int) de_str (de_ifExp (t_eqY Z T.oeq (by decide) (e_var 3) de_int) de_str (e_add Z de_str (e_str Z T.ostr (by decide) G.f_str (e_var 3))))))
    (dss_cons (ds_if (t_neY Z T.oeq (by decide) (e_var 6) de_str) (dss_one (ds_set (g_name 5 Z) (de_ifExp (t_eqY Z T.oeq (by decide) (e_var 5) de_str) (e_var 6) (e_add Z (e_add Z (e_var 5) de_str) (e_var 6))))) dss_nil)
    (dss_one (ds_if (dt_w (dw_and (t_neY Z T.oeq (by decide) (e_ix Z (e_var 4) de_int) de_int) (dw_and1 (t_eqY Z T.oeq (by decide) (e_var 2) de_str)))) (dss_one (ds_set (g_name 2 Z) (e_add Z (de_ifExp (t_lt (e_ix Z (e_var 4) de_int) de_int) de_str de_str) (e_var 5)))) (dss_one (ds_if (t_neY Z T.oeq (by decide) (e_ix Z (e_var 4) de_int) de_int) (dss_one (ds_set (g_name 2 Z) (e_add Z (e_add Z (e_var 2) (de_ifExp (t_lt (e_ix Z (e_var 4) de_int) de_int) de_str de_str)) (e_var 5)))) dss_nil))))))))
    (dss_one (ds_ret (e_add Z (e_add Z (e_add Z (de_ifExp (t_neY Z T.oeq (by decide) (e_var 2) de_str) (e_var 2) de_str) de_str) (e_str Z T.ostr (by decide) G.f_str (e_sub (e_len Z G.f_len (e_var 0)) de_int))) (de_ifExp (t_gt (e_var 1) de_int) (e_add Z de_str (e_str Z T.ostr (by decide) G.f_str (e_var 1))) de_str))))))
structure T_Row_whole (P : Program) (w : World) (K : PySem.W.Frag) (mg : Str → Option Value) (base : Heap) (cn : Cn) : Prop where
  r_InvalidOperation : Xe0 K mg cn "InvalidOperation" 8
  a_own_bottom : AttrOk cn "own_bottom" ta_own_bottom
  a_own_tops : AttrOk cn "own_tops" ta_own_tops
theorem S_Row_whole : FnScope ["self"] ["self"] (defScope s_Row_whole) := ⟨rfl, rfl, rfl, by decide +kernel, rfl, by decide +kernel, by decide +kernel⟩
theorem R_Row_whole (hK : K = cn.K) (G : Gs K mg) (T : T_Row_whole P w K mg base cn) (F : FunD K "whole" "Row.whole" (defArgs s_Row_whole) (defBody s_Row_whole) (defScope s_Row_whole) [] [] f fd) : Dx.FnR P w K mg base (L2.CX P w) 2 f (spF cn m_Row_whole) :=
  fn0 (k := 1) hK F S_Row_whole (FunD.bindsN F fun _ _ _ _ _ _ us hl => match us, hl with | [_], _ => rfl) fun cdv A outer s H E c Z =>
    (dss_cons (ds_if (t_ne Z (e_attr Z T.a_own_bottom (e_var 0)) de_int) (dss_one (s_raise0 Z T.r_InvalidOperation)) dss_nil)
    (dss_one (ds_ret (e_attr Z T.a_own_tops (e_var 0)))))
structure T__law_whole (P : Program) (w : World) (K : PySem.W.Frag) (mg : Str → Option Value) (base : Heap) (cn : Cn) : Prop where
  q_whole : MthOk P w mg base cn 2 "whole" tm_whole
  n_InvalidOperation : mg "InvalidOperation" = some (.ref (cn.cA 8))
  xm : ExmOk cn xmT
theorem S__law_whole : FnScope ["_law_row"] ["_law_row"] (defScope s__law_whole) := ⟨rfl, rfl, rfl, by decide +kernel, rfl, by decide +kernel, by decide +kernel⟩
theorem R__law_whole (hK : K = cn.K) (G : Gs K mg) (T : T__law_whole P w K mg base cn) (F : FunD K "_law_whole" "_law_whole" (defArgs s__law_whole) (defBody s__law_whole) (defScope s__law_whole) [] [] f fd) : Dx.FnR P w K mg base (L2.CX P w) 4 f (spF cn m__law_whole) :=
  fn0 (k := 3) hK F S__law_whole (FunD.bindsN F fun _ _ _ _ _ _ us hl => match us, hl with | [_], _ => rfl) fun cdv A outer s H E c Z =>
    (dss_one (s_try Z T.xm (fun W2 pn xe Z2 => (dss_one (ds_ret (e_mth0 Z2 T.q_whole (by decide) (e_var 0))))) (DHs.one (Z.nm T.n_InvalidOperation) (fun a pn => (dss_one (ds_ret (de_tup (da_cons de_str (da_cons de_str da_nil)))))) DHs.nil)))
structure T_Row_degree (P : Program) (w : World) (K : PySem.W.Frag) (mg : Str → Option Value) (base : Heap) (cn : Cn) : Prop where
  a_own_tops : AttrOk cn "own_tops" ta_own_tops
theorem S_Row_degree : FnScope ["self"] ["self"] (defScope s_Row_degree) := ⟨rfl, rfl, rfl, by decide +kernel, rfl, by decide +kernel, by decide +kernel⟩
theorem R_Row_degree (hK : K = cn.K) (G : Gs K mg) (T : T_Row_degree P w K mg base cn) (F : FunD K "degree" "Row.degree" (defArgs s_Row_degree) (defBody s_Row_degree) (defScope s_Row_degree) [] [] f fd) : Dx.FnR P w K mg base (L2.CX P w) 2 f (spF cn m_Row_degree) :=
  fn0 (k := 1) hK F S_Row_degree (FunD.bindsN F fun _ _ _ _ _ _ us hl => match us, hl with | [_], _ => rfl) fun cdv A outer s H E c Z =>
    (dss_one (ds_ret (e_sub (e_len Z G.f_len (e_attr Z T.a_own_tops (e_var 0))) de_int)))
structure T_Row_modulus (P : Program) (w : World) (K : PySem.W.Frag) (mg : Str → Option Value) (base : Heap) (cn : Cn) : Prop where
  a_own_modulus : AttrOk cn "own_modulus" ta_own_modulus
theorem S_Row_modulus : FnScope ["self"] ["self"] (defScope s_Row_modulus) := ⟨rfl, rfl, rfl, by decide +kernel, rfl, by decide +kernel, by decide +kernel⟩
theorem R_Row_modulus (hK : K = cn.K) (G : Gs K mg) (T : T_Row_modulus P w K mg base cn) (F : FunD K "modulus" "Row.modulus" (defArgs s_Row_modulus) (defBody s_Row_modulus) (defScope s_Row_modulus) [] [] f fd) : Dx.FnR P w K mg base (L2.CX P w) 2 f (spF cn m_Row_modulus) :=
  fn0 (k := 1) hK F S_Row_modulus (FunD.bindsN F fun _ _ _ _ _ _ us hl => match us, hl with | [_], _ => rfl) fun cdv A outer s H E c Z =>
    (dss_one (ds_ret (e_attr Z T.a_own_modulus (e_var 0))))
structure T_Row_order (P : Program) (w : World) (K : PySem.W.Frag) (mg : Str → Option Value) (base : Heap) (cn : Cn) : Prop where
  a_own_order : AttrOk cn "own_order" ta_own_order
theorem S_Row_order : FnScope ["self"] ["self"] (defScope s_Row_order) := ⟨rfl, rfl, rfl, by decide +kernel, rfl, by decide +kernel, by decide +kernel⟩
theorem R_Row_order (hK : K = cn.K) (G : Gs K mg) (T : T_Row_order P w K mg base cn) (F : FunD K "order" "Row.order" (defArgs s_Row_order) (defBody s_Row_order) (defScope s_Row_order) [] [] f fd) : Dx.FnR P w K mg base (L2.CX P w) 2 f (spF cn m_Row_order) :=
  fn0 (k := 1) hK F S_Row_order (FunD.bindsN F fun _ _ _ _ _ _ us hl => match us, hl with | [_], _ => rfl) fun cdv A outer s H E c Z =>
    (dss_one (ds_ret (e_attr Z T.a_own_order (e_var 0))))
structure T_Row_is_whole (P : Program) (w : World) (K : PySem.W.Frag) (mg : Str → Option Value) (base : Heap) (cn : Cn) : Prop where
  a_own_bottom : AttrOk cn "own_bottom" ta_own_bottom
  a_own_modulus : AttrOk cn "own_modulus" ta_own_modulus
theorem S_Row_is_whole : FnScope ["self"] ["self"] (defScope s_Row_is_whole) := ⟨rfl, rfl, rfl, by decide +kernel, rfl, by decide +kernel, by decide +kernel⟩
theorem R_Row_is_whole (hK : K = cn.K) (G : Gs K mg) (T : T_Row_is_whole P w K mg base cn) (F : FunD K "is_whole" "Row.is_whole" (defArgs s_Row_is_whole) (defBody s_Row_is_whole) (defScope s_Row_is_whole) [] [] f fd) : Dx.FnR P w K mg base (L2.CX P w) 2 f (spF cn m_Row_is_whole) :=
  fn0 (k := 1) hK F S_Row_is_whole (FunD.bindsN F fun _ _ _ _ _ _ us hl => match us, hl with | [_], _ => rfl) fun cdv A outer s H E c Z =>
    (dss_one (ds_ret (de_and (e_eqX Z (e_attr Z T.a_own_modulus (e_var 0)) de_int) (de_one (e_eqX Z (e_attr Z T.a_own_bottom (e_var 0)) de_int)))))
structure T_require_count (P : Program) (w : World) (K : PySem.W.Frag) (mg : Str → Option Value) (base : Heap) (cn : Cn) : Prop where
  d_is_integer : Cal P w K mg base cn 6 "is_integer" m_is_integer
  r_InvalidCount : Xe1 P K mg cn "InvalidCount" 10
theorem S_require_count : FnScope ["value", "least", "most"] ["value", "least", "most"] (defScope s_require_count) := ⟨rfl, rfl, rfl, by decide +kernel, rfl, by decide +kernel, by decide +kernel⟩
theorem R_require_count (hK : K = cn.K) (G : Gs K mg) (T : T_require_count P w K mg base cn) (F : FunD K "require_count" "require_count" (defArgs s_require_count) (defBody s_require_count) (defScope s_require_count) [] [] f fd) : Dx.FnR P w K mg base (L2.CX P w) 8 f (spF cn m_require_count) :=
  fn0 (k := 7) hK F S_require_count (FunD.bindsN F fun _ _ _ _ _ _ us hl => match us, hl with | [_, _, _], _ => rfl) fun cdv A outer s H E c Z =>
    (dss_one (ds_if (dt_w (dw_or (dt_not (t_tru Z (e_call Z T.d_is_integer (by decide) (da_cons (e_var 0) da_nil)))) (dw_or1 (dt_not (dt_chain op_le ok_cmpI op_le ok_cmpI (e_var 1) (e_var 0) (e_var 2)))))) (dss_one (s_raise (k := 6) Z T.r_InvalidCount (e_var 0))) dss_nil))
structure T_Row_at (P : Program) (w : World) (K : PySem.W.Frag) (mg : Str → Option Value) (base : Heap) (cn : Cn) : Prop where
  d_require_count : Cal P w K mg base cn 8 "require_count" m_require_count
  a_own_entries : AttrOk cn "own_entries" ta_own_entries
  a_own_tops : AttrOk cn "own_tops" ta_own_tops
theorem S_Row_at : FnScope ["self", "index"] ["self", "index"] (defScope s_Row_at) := ⟨rfl, rfl, rfl, by decide +kernel, rfl, by decide +kernel, by decide +kernel⟩
theorem R_Row_at (hK : K = cn.K) (G : Gs K mg) (T : T_Row_at P w K mg base cn) (F : FunD K "at" "Row.at" (defArgs s_Row_at) (defBody s_Row_at) (defScope s_Row_at) [] [] f fd) : Dx.FnR P w K mg base (L2.CX P w) 10 f (spF cn m_Row_at) :=
  fn0 (k := 9) hK F S_Row_at (FunD.bindsN F fun _ _ _ _ _ _ us hl => match us, hl with | [_, _], _ => rfl) fun cdv A outer s H E c Z =>
    (dss_cons (ds_expr (e_call Z T.d_require_count (by decide) (da_cons (e_var 1) (da_cons de_int (da_cons (e_sub (e_len Z G.f_len (e_attr Z T.a_own_tops (e_var 0))) de_int) da_nil)))))
    (dss_one (ds_ret (e_ix Z (e_attr Z T.a_own_entries (e_var 0)) (e_var 1)))))
structure T_Row___len__ (P : Program) (w : World) (K : PySem.W.Frag) (mg : Str → Option Value) (base : Heap) (cn : Cn) : Prop where
  a_own_tops : AttrOk cn "own_tops" ta_own_tops
theorem S_Row___len__ : FnScope ["self"] ["self"] (defScope s_Row___len__) := ⟨rfl, rfl, rfl, by decide +kernel, rfl, by decide +kernel, by decide +kernel⟩
theorem R_Row___len__ (hK : K = cn.K) (G : Gs K mg) (T : T_Row___len__ P w K mg base cn) (F : FunD K "__len__" "Row.__len__" (defArgs s_Row___len__) (defBody s_Row___len__) (defScope s_Row___len__) [] [] f fd) : Dx.FnR P w K mg base (L2.CX P w) 2 f (spF cn m_Row___len__) :=
  fn0 (k := 1) hK F S_Row___len__ (FunD.bindsN F fun _ _ _ _ _ _ us hl => match us, hl with | [_], _ => rfl) fun cdv A outer s H E c Z =>
    (dss_one (ds_ret (e_len Z G.f_len (e_attr Z T.a_own_tops (e_var 0)))))
structure T_Row___iter__ (P : Program) (w : World) (K : PySem.W.Frag) (mg : Str → Option Value) (base : Heap) (cn : Cn) : Prop where
  a_own_entries : AttrOk cn "own_entries" ta_own_entries
theorem S_Row___iter__ : FnScope ["self"] ["self"] (defScope s_Row___iter__) := ⟨rfl, rfl, rfl, by decide +kernel, rfl, by decide +kernel, by decide +kernel⟩
theorem R_Row___iter__ (hK : K = cn.K) (G : Gs K mg) (T : T_Row___iter__ P w K mg base cn) (F : FunD K "__iter__" "Row.__iter__" (defArgs s_Row___iter__) (defBody s_Row___iter__) (defScope s_Row___iter__) [] [] f fd) : Dx.FnR P w K mg base (L2.CX P w) 2 f (spIter (cn.cA 3) 1) :=
  it0 (k := 1) hK F S_Row___iter__ (FunD.bindsN F fun _ _ _ _ _ _ us hl => match us, hl with | [_], _ => rfl) T.a_own_entries rfl fun cdv A outer s H E => pss_iter rfl (by first | exact .inl rfl | exact .inr (.inl rfl) | exact .inr (.inr rfl)) rfl G.f_iter rfl rfl
structure T__law_fractions_right (P : Program) (w : World) (K : PySem.W.Frag) (mg : Str → Option Value) (base : Heap) (cn : Cn) : Prop where
  d__law_are_whole : Cal P w K mg base cn 4 "_law_are_whole" m__law_are_whole
  d__law_pairs_of : Cal P w K mg base cn 4 "_law_pairs_of" m__law_pairs_of
  d__law_pick : Cal P w K mg base cn 4 "_law_pick" m__law_pick
  d__law_roll : Cal P w K mg base cn 2 "_law_roll" m__law_roll
  d__law_rw_drawn : Cal P w K mg base cn 8 "_law_rw_drawn" m__law_rw_drawn
  d__law_rw_made : Cal P w K mg base cn 14 "_law_rw_made" m__law_rw_made
  d__law_rw_text : Cal P w K mg base cn 10 "_law_rw_text" m__law_rw_text
  d__law_whole : Cal P w K mg base cn 4 "_law_whole" m__law_whole
  K_Row : Mkr P w K mg base cn 12 "Row" 3 (dfl i_Row (.int (0)))
  k_Ratio : Mkr P w K mg base cn 8 "Ratio" 1 i_Ratio
  q_at : MthOk P w mg base cn 10 "at" tm_at
  oeq : OeqOk P w mg base cn 2 teqT tkT
  oit : LioOk P w mg base cn 2 titT
  olen : LnoOk P w mg base cn 2 tlnT
  ostr : StrOk P w mg base cn 7 tstT
  p_degree : PrpOk P w mg base cn 2 "degree" tp_degree
  p_entries : PrpOk P w mg base cn 2 "entries" tp_entries
  p_is_whole : PrpOk P w mg base cn 2 "is_whole" tp_is_whole
  p_modulus : PrpOk P w mg base cn 2 "modulus" tp_modulus
  p_order : PrpOk P w mg base cn 2 "order" tp_order
theorem S__law_fractions_right : FnScope ["_law_dice_here", "_law_row", "_law_told", "_law_degree", "_law_leads", "_law_at", "_law_entry", "_law_is_whole", "_law_mixed"] ["_law_dice_here"] (defScope s__law_fractions_right) := ⟨rfl, rfl, rfl, by decide +kernel, rfl, by decide +kernel, by decide +kernel⟩
theorem R__law_fractions_right (hK : K = cn.K) (G : Gs K mg) (T : T__law_fractions_right P w K mg base cn) (F : FunD K "_law_fractions_right" "_law_fractions_right" (defArgs s__law_fractions_right) (defBody s__law_fractions_right) (defScope s__law_fractions_right) [] [] f fd) : Dx.FnR P w K mg base (L2.CX P w) 17 f (spF cn m__law_fractions_right) :=
  fn0 (k := 16) hK F S__law_fractions_right (FunD.bindsN F fun _ _ _ _ _ _ us hl => match us, hl with | [_], _ => rfl) fun cdv A outer s H E c Z =>
    (dss_cons (ds_set (g_name 1 Z) (e_call Z T.d__law_rw_drawn (by decide) (da_cons (e_var 0) (da_cons (e_call Z T.d__law_roll (by decide) (da_cons (e_var 0) (da_cons de_int da_nil))) (da_cons (e_call Z T.d__law_pick (by decide) (da_cons (e_var 0) (da_cons (de_frz (do_lst (da_cons de_int (da_cons de_int (da_cons (e_pow de_int de_int) (da_cons (e_pow de_int de_int) da_nil)))))) da_nil))) da_nil)))))
    (dss_cons (ds_asg (de_tup (da_cons (e_call Z T.d__law_rw_made (by decide) (da_cons (e_var 1) da_nil)) (da_cons (e_sub (e_len Z G.f_len (e_var 1)) de_int) da_nil))) (dg_tup Z.calm Z.hK (dgs_cons (dg_name (g_nm 2 Z.nd)) (dgs_cons (dg_name (g_nm 3 Z.nd)) dgs_nil))))
    (dss_cons (ds_setLc (i := 4) (own := [("_law_at", 5), ("_law_entry", 6)]) Z.calm Z.nd rfl rfl (sw_true rfl rfl rfl (by decide +kernel)) (di_enumA Z.hK (by rfl) G.f_enumerate (da_cons (e_var 1) da_nil)) (blkOk_by (N := ["_law_dice_here", "_law_row", "_law_told", "_law_degree", "_law_leads", "_law_at", "_law_entry", "_law_is_whole", "_law_mixed"]) (sc := defScope s__law_fractions_right) (own := [("_law_at", 5), ("_law_entry", 6)]) (by decide +kernel)) (by decide) (fun s H C cl fp => (dg_tup Z.calm Z.hK (dgs_cons (dg_name (g_nm 5 Z.nd)) (dgs_cons (dg_name (g_nm 6 Z.nd)) dgs_nil)))) (fun s H C cl fp c1 h1 => (dts_one (t_neY (Ctx.blk Z h1 s H _ _ fp) T.oeq (by decide) (e_ix (Ctx.blk Z h1 s H _ _ fp) (e_var 6) de_int) de_int))) (fun s H C cl fp c1 h1 => (e_var 5)))
    (dss_cons (ds_if (t_ne Z (de_frz (do_lst (da_cons (e_prp Z (T.p_degree) (by decide) (e_var 2)) (da_cons (e_prp Z (T.p_modulus) (by decide) (e_var 2)) (da_cons (e_prp Z (T.p_order) (by decide) (e_var 2)) (da_cons (e_lenY Z T.olen (by decide) G.f_len (e_var 2)) da_nil)))))) (de_frz (do_lst (da_cons (e_var 3) (da_cons de_int (da_cons (de_ifExp (t_neY Z T.oeq (by decide) (e_var 4) (de_frz (do_lst da_nil))) (e_ix Z (e_var 4) de_int) de_non) (da_cons (e_add Z (e_var 3) de_int) da_nil))))))) (dss_one (ds_ret de_bl)) dss_nil)
    (dss_cons (ds_if (dt_w (dw_or (t_neY Z T.oeq (by decide) (e_call Z T.d__law_pairs_of (by decide) (da_cons (e_var 2) da_nil)) (e_var 1)) (dw_or (t_neY Z T.oeq (by decide) (e_listO Z T.olen T.oit (by decide) (by decide) G.f_list (e_var 2)) (de_frz (do_list Z.hK G.f_list (e_prp Z (T.p_entries) (by decide) (e_var 2))))) (dw_or1 (t_neY Z T.oeq (by decide) (de_frz (do_lc (own := [("_law_at", 5)]) Z.calm Z.nd (di_range1 (by rfl) G.f_range (da_cons (e_add Z (e_var 3) de_int) da_nil)) (blkOk_by (N := ["_law_dice_here", "_law_row", "_law_told", "_law_degree", "_law_leads", "_law_at", "_law_entry", "_law_is_whole", "_law_mixed"]) (sc := defScope s__law_fractions_right) (own := [("_law_at", 5)]) (by decide +kernel)) (by decide) (fun s H C cl fp => (dg_name (g_nm 5 Z.nd))) (fun s H C cl fp c1 h1 => dts_nil) (fun s H C cl fp c1 h1 => (e_mth (Ctx.blk Z h1 s H _ _ fp) T.q_at (by decide) (e_var 2) (da_cons (e_var 5) da_nil))))) (e_listO Z T.olen T.oit (by decide) (by decide) G.f_list (e_var 2))))))) (dss_one (ds_ret de_bl)) dss_nil)
    (dss_cons (ds_set (g_name 7 Z) (e_call Z T.d__law_are_whole (by decide) (da_cons (e_var 1) da_nil)))
    (dss_cons (ds_if (dt_w (dw_or (t_neY Z T.oeq (by decide) (e_prp Z (T.p_is_whole) (by decide) (e_var 2)) (e_var 7)) (dw_or1 (t_neY Z T.oeq (by decide) (e_str Z T.ostr (by decide) G.f_str (e_var 2)) (e_call Z T.d__law_rw_text (by decide) (da_cons (e_var 1) (da_cons de_int da_nil))))))) (dss_one (ds_ret de_bl)) dss_nil)
    (dss_cons (ds_if (t_neY Z T.oeq (by decide) (e_call Z T.d__law_whole (by decide) (da_cons (e_var 2) da_nil)) (de_ifExp (t_tru Z (e_var 7)) (e_tuple Z G.f_tuple (de_frz (do_lc (own := [("_law_entry", 6)]) Z.calm Z.nd (r_list Z (e_var 1)) (blkOk_by (N := ["_law_dice_here", "_law_row", "_law_told", "_law_degree", "_law_leads", "_law_at", "_law_entry", "_law_is_whole", "_law_mixed"]) (sc := defScope s__law_fractions_right) (own := [("_law_entry", 6)]) (by decide +kernel)) (by decide) (fun s H C cl fp => (dg_name (g_nm 6 Z.nd))) (fun s H C cl fp c1 h1 => dts_nil) (fun s H C cl fp c1 h1 => (e_ix (Ctx.blk Z h1 s H _ _ fp) (e_var 6) de_int))))) (de_tup (da_cons de_str (da_cons de_str da_nil))))) (dss_one (ds_ret de_bl)) dss_nil)
    (dss_cons (ds_set (g_name 8 Z) (e_tuple Z G.f_tuple (de_frz (do_lc (own := [("_law_entry", 6)]) Z.calm Z.nd (r_list Z (e_var 1)) (blkOk_by (N := ["_law_dice_here", "_law_row", "_law_told", "_law_degree", "_law_leads", "_law_at", "_law_entry", "_law_is_whole", "_law_mixed"]) (sc := defScope s__law_fractions_right) (own := [("_law_entry", 6)]) (by decide +kernel)) (by decide) (fun s H C cl fp => (dg_name (g_nm 6 Z.nd))) (fun s H C cl fp c1 h1 => dts_nil) (fun s H C cl fp c1 h1 => (de_ifExp (t_eqY (Ctx.blk Z h1 s H _ _ fp) T.oeq (by decide) (e_ix (Ctx.blk Z h1 s H _ _ fp) (e_var 6) de_int) de_int) (e_ix (Ctx.blk Z h1 s H _ _ fp) (e_var 6) de_int) (e_make (Ctx.blk Z h1 s H _ _ fp) T.k_Ratio (by decide) (da_cons (e_ix (Ctx.blk Z h1 s H _ _ fp) (e_var 6) de_int) (da_cons (e_ix (Ctx.blk Z h1 s H _ _ fp) (e_var 6) de_int) da_nil)))))))))
    (dss_one (ds_ret (de_and (e_eqY Z T.oeq (by decide) (e_make Z T.K_Row (by decide) (da_cons (e_var 8) da_nil)) (e_var 2)) (de_and (e_neY Z T.oeq (by decide) (e_var 2) (e_var 8)) (de_and (e_neY Z T.oeq (by decide) (e_var 2) (e_var 1)) (de_one (de_or (e_eqY Z T.oeq (by decide) (e_var 3) de_int) (de_one (e_neY Z T.oeq (by decide) (e_var 2) (e_make Z T.K_Row (by decide) (da_cons (e_add Z (e_var 8) (de_tup (da_cons de_int da_nil))) da_nil))))))))))))))))))))
structure T__law_residues_right (P : Program) (w : World) (K : PySem.W.Frag) (mg : Str → Option Value) (base : Heap) (cn : Cn) : Prop where
  d__law_pick : Cal P w K mg base cn 4 "_law_pick" m__law_pick
  d__law_roll : Cal P w K mg base cn 2 "_law_roll" m__law_roll
  d__law_rw_text : Cal P w K mg base cn 10 "_law_rw_text" m__law_rw_text
  K_Row : Mkr P w K mg base cn 12 "Row" 3 (dfl i_Row (.int (0)))
  w_Row : MkrK P w K mg base cn 12 "Row" 1 ["modulus"] 3 i_Row
  q_whole : MthOk P w mg base cn 2 "whole" tm_whole
  oeq : OeqOk P w mg base cn 2 teqT tkT
  oit : LioOk P w mg base cn 2 titT
  olen : LnoOk P w mg base cn 2 tlnT
  ostr : StrOk P w mg base cn 7 tstT
  p_entries : PrpOk P w mg base cn 2 "entries" tp_entries
  p_is_whole : PrpOk P w mg base cn 2 "is_whole" tp_is_whole
  p_modulus : PrpOk P w mg base cn 2 "modulus" tp_modulus
theorem S__law_residues_right : FnScope ["_law_dice_here", "_law_modulus", "_law_degree", "_law_entries", "_law_turn", "_law_row", "_law_entry", "_law_told"] ["_law_dice_here"] (defScope s__law_residues_right) := ⟨rfl, rfl, rfl, by decide +kernel, rfl, by decide +kernel, by decide +kernel⟩
theorem R__law_residues_right (hK : K = cn.K) (G : Gs K mg) (T : T__law_residues_right P w K mg base cn) (F : FunD K "_law_residues_right" "_law_residues_right" (defArgs s__law_residues_right) (defBody s__law_residues_right) (defScope s__law_residues_right) [] [] f fd) : Dx.FnR P w K mg base (L2.CX P w) 15 f (spF cn m__law_residues_right) :=
  fn0 (k := 14) hK F S__law_residues_right (FunD.bindsN F fun _ _ _ _ _ _ us hl => match us, hl with | [_], _ => rfl) fun cdv A outer s H E c Z =>
    (dss_cons (ds_asg (de_tup (da_cons (e_call Z T.d__law_pick (by decide) (da_cons (e_var 0) (da_cons (de_frz (do_lst (da_cons de_int (da_cons de_int (da_cons de_int (da_cons de_int da_nil)))))) da_nil))) (da_cons (e_call Z T.d__law_roll (by decide) (da_cons (e_var 0) (da_cons de_int da_nil))) da_nil))) (dg_tup Z.calm Z.hK (dgs_cons (dg_name (g_nm 1 Z.nd)) (dgs_cons (dg_name (g_nm 2 Z.nd)) dgs_nil))))
    (dss_cons (ds_set (g_name 3 Z) (e_tuple Z G.f_tuple (de_frz (do_lc (own := [("_law_turn", 4)]) Z.calm Z.nd (di_range1 (by rfl) G.f_range (da_cons (e_add Z (e_var 2) de_int) da_nil)) (blkOk_by (N := ["_law_dice_here", "_law_modulus", "_law_degree", "_law_entries", "_law_turn", "_law_row", "_law_entry", "_law_told"]) (sc := defScope s__law_residues_right) (own := [("_law_turn", 4)]) (by decide +kernel)) (by decide) (fun s H C cl fp => (dg_name (g_nm 4 Z.nd))) (fun s H C cl fp c1 h1 => dts_nil) (fun s H C cl fp c1 h1 => (e_sub (e_call (Ctx.blk Z h1 s H _ _ fp) T.d__law_roll (by decide) (da_cons (e_var 0) (da_cons (e_pow de_int de_int) da_nil))) (e_pow de_int de_int)))))))
    (dss_cons (ds_set (g_name 5 Z) (e_tuple Z G.f_tuple (de_frz (do_lc (own := [("_law_entry", 6)]) Z.calm Z.nd (r_list Z (e_var 3)) (blkOk_by (N := ["_law_dice_here", "_law_modulus", "_law_degree", "_law_entries", "_law_turn", "_law_row", "_law_entry", "_law_told"]) (sc := defScope s__law_residues_right) (own := [("_law_entry", 6)]) (by decide +kernel)) (by decide) (fun s H C cl fp => (dg_name (g_nm 6 Z.nd))) (fun s H C cl fp c1 h1 => dts_nil) (fun s H C cl fp c1 h1 => (e_mod (e_int G.f_int (e_var 6)) (e_var 1)))))))
    (dss_cons (ds_set (g_name 7 Z) (e_makeK (ks := ["modulus"]) Z T.w_Row (by decide) (da_cons (e_var 3) da_nil) (dk_cons (e_var 1) dk_nil)))
    (dss_cons (ds_if (dt_w (dw_or (t_neY Z T.oeq (by decide) (e_prp Z (T.p_entries) (by decide) (e_var 7)) (e_var 5)) (dw_or (t_neY Z T.oeq (by decide) (e_mth0 Z T.q_whole (by decide) (e_var 7)) (e_var 5)) (dw_or (t_tru Z (e_prp Z (T.p_is_whole) (by decide) (e_var 7))) (dw_or (t_neY Z T.oeq (by decide) (e_prp Z (T.p_modulus) (by decide) (e_var 7)) (e_var 1)) (dw_or1 (t_neY Z T.oeq (by decide) (e_listO Z T.olen T.oit (by decide) (by decide) G.f_list (e_var 7)) (de_frz (do_list Z.hK G.f_list (e_var 5)))))))))) (dss_one (ds_ret de_bl)) dss_nil)
    (dss_cons (ds_if (dt_w (dw_or (t_eqY Z T.oeq (by decide) (e_var 7) (e_make Z T.K_Row (by decide) (da_cons (e_var 5) da_nil))) (dw_or (t_neY Z T.oeq (by decide) (e_var 7) (e_makeK (ks := ["modulus"]) Z T.w_Row (by decide) (da_cons (e_var 5) da_nil) (dk_cons (e_var 1) dk_nil))) (dw_or1 (t_eqY Z T.oeq (by decide) (e_var 7) (e_var 5)))))) (dss_one (ds_ret de_bl)) dss_nil)
    (dss_one (ds_ret (e_eqY Z T.oeq (by decide) (e_str Z T.ostr (by decide) G.f_str (e_var 7)) (e_call Z T.d__law_rw_text (by decide) (da_cons (de_frz (do_lc (own := [("_law_entry", 6)]) Z.calm Z.nd (r_list Z (e_var 5)) (blkOk_by (N := ["_law_dice_here", "_law_modulus", "_law_degree", "_law_entries", "_law_turn", "_law_row", "_law_entry", "_law_told"]) (sc := defScope s__law_residues_right) (own := [("_law_entry", 6)]) (by decide +kernel)) (by decide) (fun s H C cl fp => (dg_name (g_nm 6 Z.nd))) (fun s H C cl fp c1 h1 => dts_nil) (fun s H C cl fp c1 h1 => (de_tup (da_cons (e_var 6) (da_cons de_int da_nil)))))) (da_cons (e_var 1) da_nil))))))))))))
structure T_Made_init (P : Program) (w : World) (K : PySem.W.Frag) (mg : Str → Option Value) (base : Heap) (cn : Cn) : Prop where
  a_own_line : AttrOk cn "own_line" ta_own_line
theorem S_Made_init : FnScope ["self", "line"] ["self", "line"] (defScope s_Made_init) := ⟨rfl, rfl, rfl, by decide +kernel, rfl, by decide +kernel, by decide +kernel⟩
theorem R_Made_init (hK : K = cn.K) (G : Gs K mg) (T : T_Made_init P w K mg base cn) (F : FunD K "__init__" "Made.__init__" (defArgs s_Made_init) (defBody s_Made_init) (defScope s_Made_init) [] [] f fd) : Dx.FnR P w K mg base (L2.CX P w) 2 f (spI cn 2 i_Made) :=
  in0 (k := 1) hK F S_Made_init (FunD.bindsN F fun _ _ _ _ _ _ us hl => match us, hl with | [_, _], _ => rfl) fun cdv A outer s H E c Z =>
    (dss_one (s_self (i := 0) Z T.a_own_line (pv 0) (e_var 1)))
structure T_Row_plain (P : Program) (w : World) (K : PySem.W.Frag) (mg : Str → Option Value) (base : Heap) (cn : Cn) : Prop where
  d_require_count : Cal P w K mg base cn 8 "require_count" m_require_count
  d_require_modulus : Cal P w K mg base cn 8 "require_modulus" m_require_modulus
  k_Made : Mkr P w K mg base cn 2 "Made" 2 i_Made
  mk_Row_kw : MkrC P w K mg base cn 12 1 ["modulus"] 3 i_Row
theorem S_Row_plain : FnScope ["cls", "degree", "modulus"] ["cls", "degree", "modulus"] (defScope s_Row_plain) := ⟨rfl, rfl, rfl, by decide +kernel, rfl, by decide +kernel, by decide +kernel⟩
theorem Q_Row_plain (hK : K = cn.K) (G : Gs K mg) (T : T_Row_plain P w K mg base cn) (F : FunD K "plain" "Row.plain" (defArgs s_Row_plain) (defBody s_Row_plain) (defScope s_Row_plain) [] [("modulus", (.int (0)))] f fd) : OkF P w K mg base cn 14 f fd ["cls", "degree", "modulus"] m_Row_plain :=
  fo1 (k := 13) hK F S_Row_plain fun cdv A outer s H E c Z =>
    (dss_cons (ds_expr (e_call Z T.d_require_count (by decide) (da_cons (e_var 1) (da_cons de_int (da_cons (de_gint (by rfl) G.c_MAX_ROW) da_nil)))))
    (dss_cons (ds_expr (e_call Z T.d_require_modulus (by decide) (da_cons (e_var 2) da_nil)))
    (dss_one (ds_ret (e_makeC (ks := ["modulus"]) (i := 0) Z T.mk_Row_kw (by decide) (pv 0) (da_cons (e_make Z T.k_Made (by decide) (da_cons (de_tup (da_cons (de_frz (do_lst (da_cons de_int (da_cons de_int (da_star Z.hK (e_mul Z (de_frz (do_lst (da_cons de_int da_nil))) (e_sub (e_var 1) de_int)) da_nil))))) (da_cons de_int da_nil))) da_nil)) da_nil) (dk_cons (e_var 2) dk_nil))))))
theorem W_Row_plain (hK : K = cn.K) (G : Gs K mg) (T : T_Row_plain P w K mg base cn) (F : FunD K "plain" "Row.plain" (defArgs s_Row_plain) (defBody s_Row_plain) (defScope s_Row_plain) [] [("modulus", (.int (0)))] f fd) : Dx.FnRK P w K mg base (L2.CX P w) 14 f 2 ["modulus"] (spF cn m_Row_plain) := by
  obtain ⟨mv, hb⟩ := FunD.kbinds0 (ps := ["cls", "degree", "modulus"]) F 2 ["modulus"] [] (fun us mv ws => us ++ ws) (by simp) (by simp) (fun a _ b => a.append b) fun _ _ _ _ _ _ us mv ws h1 h2 h3 => match us, mv, ws, h1, h2, h3 with | [_, _], [], [_], _, _, _ => rfl
  exact (Q_Row_plain hK G T F).kw hb rfl
theorem D_Row_plain (hK : K = cn.K) (G : Gs K mg) (T : T_Row_plain P w K mg base cn) (F : FunD K "plain" "Row.plain" (defArgs s_Row_plain) (defBody s_Row_plain) (defScope s_Row_plain) [] [("modulus", (.int (0)))] f fd) : Dx.FnR P w K mg base (L2.CX P w) 14 f (spF cn (dfl m_Row_plain (.int (0)))) := by
  have hb := FunD.binds0 (ps := ["cls", "degree", "modulus"]) F 2 (by simp) (by rfl) fun _ _ _ _ _ _ us ks h1 h2 => match us, ks, h1, h2 with | [_, _], [_], _, _ => ⟨_, _, _, _, _, _, rfl, rfl, rfl⟩
  exact (Q_Row_plain hK G T F).dfl rfl rfl rfl hb
structure T_law (P : Program) (w : World) (K : PySem.W.Frag) (mg : Str → Option Value) (base : Heap) (cn : Cn) : Prop where
  c0_Row_plain : CmOk P w K mg base cn 14 "Row" "plain" 3 1 [] (dfl m_Row_plain (.int (0)))
  d__law_dice : Cal P w K mg base cn 2 "_law_dice" m__law_dice
  d__law_fractions_right : Cal P w K mg base cn 17 "_law_fractions_right" m__law_fractions_right
  d__law_residues_right : Cal P w K mg base cn 15 "_law_residues_right" m__law_residues_right
  K_Row : Mkr P w K mg base cn 12 "Row" 3 (dfl i_Row (.int (0)))
  k_Ratio : Mkr P w K mg base cn 8 "Ratio" 1 i_Ratio
  q_whole : MthOk P w mg base cn 2 "whole" tm_whole
  oeq : OeqOk P w mg base cn 2 teqT tkT
  ostr : StrOk P w mg base cn 7 tstT
  p_degree : PrpOk P w mg base cn 2 "degree" tp_degree
  p_is_whole : PrpOk P w mg base cn 2 "is_whole" tp_is_whole
  p_order : PrpOk P w mg base cn 2 "order" tp_order
theorem S_law : FnScope ["_law_script", "_law_spot", "_law_dice_here", "_law_log", "_law_told"] ["_law_script"] (defScope s_law) := ⟨rfl, rfl, rfl, by decide +kernel, rfl, by decide +kernel, by decide +kernel⟩
theorem O_law (hK : K = cn.K) (G : Gs K mg) (T : T_law P w K mg base cn) (F : FunD K "law" "law" (defArgs s_law) (defBody s_law) (defScope s_law) [] [] f fd) : Dx.FnOk P w K mg base (L2.CX P w) 20 f fd ["_law_script"] (fun vs H Q E => vs.length = 1 ∧ spF cn m_law vs H Q E) :=
  fo0 (k := 19) hK F S_law fun cdv A outer s H E c Z =>
    (dss_cons (ds_for Z.pass Z.calm (di_range1 (by rfl) G.f_range (da_cons (e_max Z G.f_max de_int (e_min Z G.f_min de_int (e_len Z G.f_len (e_var 0)))) da_nil)) (dg_name (g_nm 1 Z.nd)) (dss_cons (ds_setO (g_name 2 Z) (o_call Z T.d__law_dice (by decide) (da_cons (e_var 0) (da_cons (e_var 1) da_nil))))
    (dss_one (ds_if (dt_w (dw_or (dt_not (t_tru Z (e_lend Z T.d__law_fractions_right (by decide) 2 da_nil (pv 2)))) (dw_or (dt_not (t_tru Z (e_lend Z T.d__law_fractions_right (by decide) 2 da_nil (pv 2)))) (dw_or1 (dt_not (t_tru Z (e_lend Z T.d__law_residues_right (by decide) 2 da_nil (pv 2)))))))) (dss_one (ds_ret de_bl)) dss_nil))))
    (dss_cons (ds_set (g_name 3 Z) (e_make Z T.K_Row (by decide) (da_cons (de_tup (da_cons de_int (da_cons de_int (da_cons (e_make Z T.k_Ratio (by decide) (da_cons (e_neg de_int) (da_cons de_int da_nil))) (da_cons (e_make Z T.k_Ratio (by decide) (da_cons de_int (da_cons de_int da_nil))) da_nil))))) da_nil)))
    (dss_cons (ds_set (g_name 4 Z) (de_frz (do_lst (da_cons (e_str Z T.ostr (by decide) G.f_str (e_var 3)) (da_cons (e_prp Z (T.p_degree) (by decide) (e_var 3)) (da_cons (e_prp Z (T.p_order) (by decide) (e_var 3)) (da_cons (e_prp Z (T.p_is_whole) (by decide) (e_var 3)) (da_cons (e_str Z T.ostr (by decide) G.f_str (e_make Z T.K_Row (by decide) (da_cons (de_tup (da_cons de_int da_nil)) da_nil))) (da_cons (e_str Z T.ostr (by decide) G.f_str (e_make Z T.K_Row (by decide) (da_cons (de_tup (da_cons de_int (da_cons de_int da_nil))) da_nil))) (da_cons (e_prp Z (T.p_order) (by decide) (e_make Z T.K_Row (by decide) (da_cons (de_tup (da_cons de_int (da_cons de_int da_nil))) da_nil))) da_nil))))))))))
    (dss_cons (ds_if (t_neY Z T.oeq (by decide) (e_var 4) (de_frz (do_lst (da_cons de_str (da_cons de_int (da_cons de_int (da_cons de_bl (da_cons de_str (da_cons de_str (da_cons de_non da_nil)))))))))) (dss_one (ds_ret de_bl)) dss_nil)
    (dss_one (ds_ret (de_and (e_eqY Z T.oeq (by decide) (e_str Z T.ostr (by decide) G.f_str (e_make Z T.K_Row (by decide) (da_cons (de_tup (da_cons (e_neg de_int) (da_cons (e_neg de_int) (da_cons (e_make Z T.k_Ratio (by decide) (da_cons (e_neg de_int) (da_cons de_int da_nil))) da_nil)))) da_nil))) de_str) (de_and (e_eqY Z T.oeq (by decide) (e_cm (ks := []) Z T.c0_Row_plain (by decide) (da_cons de_int da_nil) dk_nil) (e_make Z T.K_Row (by decide) (da_cons (de_tup (da_cons de_int (da_cons de_int (da_cons de_int da_nil)))) da_nil))) (de_one (e_eqY Z T.oeq (by decide) (e_mth0 Z T.q_whole (by decide) (e_cm (ks := []) Z T.c0_Row_plain (by decide) (da_cons de_int da_nil) dk_nil)) (de_tup (da_cons de_int (da_cons de_int da_nil)))))))))))))
end
end K08

namespace K08
open PySem PySem.Spec PyProof.Rows L2 Dx
theorem sh_sgn (t b : Int) : Ln.sh b [t] = if b < 0 then -((Nat.gcd t.natAbs b.natAbs : Nat) : Int) else (Nat.gcd t.natAbs b.natAbs : Nat) := by
  rw [Nat.gcd_comm]
  rfl
theorem sz_sh {t b : Int} (h : b ≠ 0) (hz : Sz b) : Sz (Ln.sh b [t]) := by
  obtain ⟨k, hk⟩ := Ln.sh_dvd_b b [t]
  have hk0 : k ≠ 0 := fun z => h (by rw [hk, z, Int.mul_zero])
  have e : b.natAbs = (Ln.sh b [t]).natAbs * k.natAbs := by conv => lhs; rw [hk]; rw [Int.natAbs_mul]
  refine Nat.lt_of_le_of_lt ?_ hz
  rw [e]
  exact Nat.le_mul_of_pos_right _ (Int.natAbs_pos.mpr hk0)
theorem ev_terms_of (t b : Int) (g : G) (h : b ≠ 0) (hz : Sz b) : m_terms_of [.int t, .int b] g = .ok (.v (.ins 0 [.int ((t : Rat) / b).den, .int ((t : Rat) / b).num])) g := by
  obtain ⟨h1, h2⟩ := Ln.nf_one (t := t) h
  have hs := Ln.sh_ne h [t]
  have d1 : Ln.sh b [t] ∣ t := Ln.sh_dvd_t (List.mem_singleton.mpr rfl)
  have d2 : Ln.sh b [t] ∣ b := Ln.sh_dvd_b b [t]
  refine mOf_ok rfl (sl := [.v (.int t), .v (.int b), .v (.int (Ln.sh b [t]))]) ?_
  unfold b_terms_of
  simp only [List.map_cons, List.map_nil, Nat.reduceSub, List.replicate_succ, List.replicate_zero, List.cons_append, List.nil_append, List.replicate]
  refine Ss.seq (Ss.set (Es.blt (Es.cons (Es.var rfl) (Es.cons (Es.var rfl) Es.nil)) rfl) (by simp only [List.set_cons_zero, List.set_cons_succ] <;> rfl)) (Ss.seq (l1 := ⟨[.v (.int t), .v (.int b), .v (.int (Ln.sh b [t]))], g⟩) ?_ (Ss.ret ?_))
  · rw [sh_sgn]
    by_cases hb : b < 0
    · rw [if_pos hb]
      exact Ss.ifT (Es.tst (Es.bin (Es.var rfl) Es.c rfl)) (decide_eq_true hb) (Ss.set (Es.un (Es.var rfl) rfl) rfl)
    · rw [if_neg hb]
      exact Ss.ifF (Es.tst (Es.bin (Es.var rfl) Es.c rfl)) (decide_eq_false hb) Ss.next
  · rw [← h1, ← h2]
    exact Es.callV (Es.cons (Es.bin (Es.var rfl) (Es.var rfl) (divD_ok hs (sz_sh h hz) d1)) (Es.cons (Es.bin (Es.var rfl) (Es.var rfl) (divD_ok hs (sz_sh h hz) d2)) Es.nil)) fun g => by rfl

def ratD (q : Rat) : D := .ins 1 [.int q.den, .int q.num]
def Short (x : Int) : Prop := -1000000000000000000000000000000000000000000000000000000000000 < x ∧ x < 1000000000000000000000000000000000000000000000000000000000000
theorem ev_plain (x : Int) (g : G) : m_is_plain [.int x] g = .ok (.v (.bl true)) g := rfl
theorem ev_short {x : Int} (h : Short x) (g : G) : m_is_short [.int x] g = .ok (.v (.bl true)) g := by
  refine mOf_ok rfl (sl := [.v (.int x)]) ?_
  unfold b_is_short
  simp only [List.map_cons, List.map_nil, Nat.reduceSub, List.replicate_succ, List.replicate_zero, List.cons_append, List.nil_append, List.replicate]
  refine Ss.ret (Es.andVT (Es.callV (Es.cons (Es.var rfl) Es.nil) (ev_plain x)) rfl (Es.chain (Es.un Es.c rfl) (Es.var rfl) ?_ Es.c ?_))
  · exact congrArg (fun b => some (D.bl b)) (decide_eq_true h.1)
  · exact congrArg (fun b => some (D.bl b)) (decide_eq_true h.2)
theorem ev_integer {x : Int} (h : Short x) (g : G) : m_is_integer [.int x] g = .ok (.v (.bl true)) g := by
  refine mOf_ok rfl (sl := [.v (.int x)]) ?_
  unfold b_is_integer
  simp only [List.map_cons, List.map_nil, Nat.reduceSub, List.replicate_succ, List.replicate_zero, List.cons_append, List.nil_append, List.replicate]
  exact Ss.ret (Es.callV (Es.cons (Es.var rfl) Es.nil) (ev_short h))
theorem Short.sz {x : Int} (h : Short x) : Sz x := by
  have h1 : x.natAbs < 10 ^ 60 := by
    have := h.1
    have := h.2
    have e : (10 : Nat) ^ 60 = 1000000000000000000000000000000000000000000000000000000000000 := by decide
    omega
  exact Nat.lt_trans h1 (Nat.lt_of_lt_of_le (m := 2 ^ 200) (by decide) (Nat.pow_le_pow_right (by decide) (by decide)))
theorem ev_told_T (fs : List D) (d : D) (g : G) : m_told_terms [.ins 0 fs, d] g = .ok (.v (.ins 0 fs)) g := rfl
theorem ev_told_I {t b : Int} (ht : Short t) (hb : Short b) (h : b ≠ 0) (g : G) : m_told_terms [.int t, .int b] g = .ok (.v (.ins 0 [.int ((t : Rat) / b).den, .int ((t : Rat) / b).num])) g := by
  refine mOf_ok rfl (sl := [.v (.int t), .v (.int b)]) ?_
  unfold b_told_terms
  simp only [List.map_cons, List.map_nil, Nat.reduceSub, List.replicate_succ, List.replicate_zero, List.cons_append, List.nil_append, List.replicate]
  have s1 : ∀ (x : Int) (i : Nat) (sl : List Slot) (g : G), Short x → sl[i]? = some (.v (.int x)) → Es (sNot (sTru (sCall m_is_short (sCons (sVar i) sNil)))) ⟨sl, g⟩ false ⟨sl, g⟩ := fun x i sl g hx hi =>
    Es.nt (Es.tru (Es.callV (Es.cons (Es.var hi) Es.nil) (ev_short hx)) rfl)
  refine Ss.seq (Ss.ifF (Es.tru (Es.un (Es.var rfl) rfl) rfl) rfl Ss.next) (Ss.seq (Ss.ifF (s1 t 0 _ _ ht rfl) rfl Ss.next) (Ss.seq (Ss.ifF (Es.orF (s1 b 1 _ _ hb rfl) rfl (Es.tst (Es.bin (Es.var rfl) Es.c (eqX_int b 0)))) (decide_eq_false h) Ss.next) (Ss.ret ?_)))
  exact Es.callV (Es.cons (Es.var rfl) (Es.cons (Es.var rfl) Es.nil)) fun g => ev_terms_of t b g h hb.sz
theorem ev_Ratio_of {d e : D} {q : Rat} (ht : ∀ g, m_told_terms [d, e] g = .ok (.v (.ins 0 [.int q.den, .int q.num])) g) (g : G) : mkC 1 i_Ratio [d, e] g = .ok (.v (ratD q)) g := by
  refine mk_ok (f := some (.int q.den)) (fs := [some (.int q.num)]) ?_ rfl
  refine mOfI_nx rfl (sl := [.slf, .v d, .v e, .v (.ins 0 [.int q.den, .int q.num])]) ?_
  unfold b_Ratio_init
  simp only [List.map_cons, List.map_nil, Nat.reduceSub, List.replicate_succ, List.replicate_zero, List.cons_append, List.nil_append, List.replicate]
  exact Ss.seq (Ss.set (Es.callV (Es.cons (Es.var rfl) (Es.cons (Es.var rfl) Es.nil)) ht) (by simp only [List.set_cons_zero, List.set_cons_succ] <;> rfl)) (Ss.seq (Ss.self (Es.attr (Es.var rfl) rfl rfl) rfl rfl rfl) (Ss.self (Es.attr (Es.var rfl) rfl rfl) rfl rfl rfl))
theorem ev_Ratio {t b : Int} (ht : Short t) (hb : Short b) (h : b ≠ 0) (g : G) : mkC 1 i_Ratio [.int t, .int b] g = .ok (.v (ratD ((t : Rat) / b))) g := ev_Ratio_of (fun g => ev_told_I ht hb h g) g
theorem ev_ratio_of (t b : Int) (h : b ≠ 0) (hz : Sz b) (g : G) : m_ratio_of [.int t, .int b] g = .ok (.v (ratD ((t : Rat) / b))) g := by
  refine mOf_ok rfl (sl := [.v (.int t), .v (.int b)]) ?_
  unfold b_ratio_of
  simp only [List.map_cons, List.map_nil, Nat.reduceSub, List.replicate_succ, List.replicate_zero, List.cons_append, List.nil_append, List.replicate]
  refine Ss.ret (Es.callV (ds := [.ins 0 [.int ((t : Rat) / b).den, .int ((t : Rat) / b).num]]) (Es.cons (Es.callV (Es.cons (Es.var rfl) (Es.cons (Es.var rfl) Es.nil)) fun g => ev_terms_of t b g h hz) Es.nil) fun g => ?_)
  exact ev_Ratio_of (fun g => ev_told_T _ _ g) g

def ints' (ts : List Int) : List D := ts.map D.int
theorem fold_G : ∀ (ts : List Int) (s : Int), ts.foldl (fun s t => ((Nat.gcd s.natAbs t.natAbs : Nat) : Int)) s = if ts = [] then s else (Ln.G s ts : Int)
  | [], s => rfl
  | [t], s => rfl
  | t :: u :: ts, s => by
    rw [if_neg (by simp)]
    show (u :: ts).foldl (fun s t => ((Nat.gcd s.natAbs t.natAbs : Nat) : Int)) ((Nat.gcd s.natAbs t.natAbs : Nat) : Int) = _
    rw [fold_G (u :: ts), if_neg (by simp)]
    rfl
theorem fold_pair (f : Int → Int → Int) : ∀ (ts : List Int) (x : Slot) (s : Int), ∃ x', ts.foldl (fun (p : Slot × Int) t => (Slot.v (.int t), f p.2 t)) (x, s) = (x', ts.foldl f s)
  | [], x, s => ⟨x, rfl⟩
  | t :: ts, x, s => fold_pair f ts (.v (.int t)) (f s t)
theorem sz_dvd {s b : Int} (h : b ≠ 0) (hz : Sz b) (d : s ∣ b) : Sz s := by
  obtain ⟨k, hk⟩ := d
  have hk0 : k ≠ 0 := fun z => h (by rw [hk, z, Int.mul_zero])
  have e : b.natAbs = s.natAbs * k.natAbs := by conv => lhs; rw [hk]; rw [Int.natAbs_mul]
  refine Nat.lt_of_le_of_lt ?_ hz
  rw [e]
  exact Nat.le_mul_of_pos_right _ (Int.natAbs_pos.mpr hk0)
theorem ev_line_of0 {q : D} {ts : List Int} {b : Int} (hq : q = .lst (ints' ts) ∨ q = .tup (ints' ts)) (h0 : ts ≠ []) (hl : ts.length ≤ 1000) (hb : b ≠ 0) (hz : Sz b) (g : G) :
    m_line_of [q, .int b, .int 0] g = .ok (.v (.tup [.lst (ints' (Ln.nfT b ts)), .int (Ln.nfB b ts)])) g := by
  have hlz : ts.length ≤ szL := Nat.le_trans hl (by decide)
  have hqs : seqD q = some (ts.map D.int) := by rcases hq with rfl | rfl <;> rfl
  obtain ⟨x', hx⟩ := fold_pair (fun s t => ((Nat.gcd s.natAbs t.natAbs : Nat) : Int)) ts .un b
  rw [fold_G, if_neg h0] at hx
  have hs := Ln.sh_ne hb ts
  have hsz : Sz (Ln.sh b ts) := sz_dvd hb hz (Ln.sh_dvd_b b ts)
  have L : Ss (zForI (sItems (sVar 0)) (gSet 3) (zSet 4 (sBlt gcdD (sCons (sVar 4) (sCons (sVar 3) sNil))))) ⟨[.v q, .v (.int b), .v (.int 0), .un, .v (.int b)], g⟩ (.nx ⟨[.v q, .v (.int b), .v (.int 0), x', .v (.int (Ln.G b ts))], g⟩) := by
    refine Ss.forI (Es.items (Es.var rfl) hqs) ?_
    have := for_fold (tg := gSet 3) (p := (zSet 4 (sBlt gcdD (sCons (sVar 4) (sCons (sVar 3) sNil))))) D.int (fun (p : Slot × Int) => (⟨[.v q, .v (.int b), .v (.int 0), p.1, .v (.int p.2)], g⟩ : LSt)) (fun p t => (Slot.v (.int t), ((Nat.gcd p.2.natAbs t.natAbs : Nat) : Int))) ts (.un, b) (fun y t _ => ⟨_, rfl, ?_⟩)
    · rw [hx] at this
      exact this
    · exact Ss.set (Es.blt (Es.cons (Es.var rfl) (Es.cons (Es.var rfl) Es.nil)) rfl) rfl
  have N : Ss (zSet 4 (sIf (sTst (sBin ltD (sVar 1) (sC (.int (0))))) (sUn negD (sVar 4)) (sVar 4))) ⟨[.v q, .v (.int b), .v (.int 0), x', .v (.int (Ln.G b ts))], g⟩ (.nx ⟨[.v q, .v (.int b), .v (.int 0), x', .v (.int (Ln.sh b ts))], g⟩) := by
    unfold Ln.sh
    by_cases hn : b < 0
    · rw [if_pos hn]
      exact Ss.set (Es.ifT (Es.tst (Es.bin (Es.var rfl) Es.c rfl)) (decide_eq_true hn) (Es.un (Es.var rfl) rfl)) rfl
    · rw [if_neg hn]
      exact Ss.set (Es.ifF (Es.tst (Es.bin (Es.var rfl) Es.c rfl)) (decide_eq_false hn) (Es.var rfl)) rfl
  have pre : ∀ {w : Fl} {p : LSt → Fl}, Ss p ⟨[.v q, .v (.int b), .v (.int 0), x', .v (.int (Ln.sh b ts))], g⟩ w → Ss (zSeq (zIf (sTst (sBin gtD (sVar 2) (sC (.int (0))))) (zRet (sTup (sCons (sFrz (sComp (sItems (sVar 0)) (gSet 3) sYes (sBin modD (sVar 3) (sVar 2)) [3])) (sCons (sC (.int (1))) sNil)))) zNext)
      (zSeq (zSet 4 (sVar 1)) (zSeq (zForI (sItems (sVar 0)) (gSet 3) (zSet 4 (sBlt gcdD (sCons (sVar 4) (sCons (sVar 3) sNil))))) (zSeq (zSet 4 (sIf (sTst (sBin ltD (sVar 1) (sC (.int (0))))) (sUn negD (sVar 4)) (sVar 4))) p)))) ⟨[.v q, .v (.int b), .v (.int 0), .un, .un], g⟩ w := fun h =>
    Ss.seq (Ss.ifF (Es.tst (Es.bin (Es.var rfl) Es.c rfl)) rfl Ss.next) (Ss.seq (Ss.set (Es.var rfl) (by simp only [List.set_cons_zero, List.set_cons_succ] <;> rfl)) (Ss.seq L (Ss.seq N h)))
  have hle : ∀ (x y : D), [x, y].length ≤ szL := fun _ _ => by show 2 ≤ szL; decide
  by_cases h1 : Ln.sh b ts = 1
  · refine mOf_ok rfl (sl := [.v q, .v (.int b), .v (.int 0), x', .v (.int (Ln.sh b ts))]) ?_
    unfold b_line_of
    simp only [List.map_cons, List.map_nil, Nat.reduceSub, List.replicate_succ, List.replicate_zero, List.cons_append, List.nil_append, List.replicate]
    refine pre (Ss.ret (Es.ifF (Es.tst (Es.bin (Es.var rfl) Es.c (neD_int _ _))) (by rw [h1]; rfl) ?_))
    have e1 : Ln.nfT b ts = ts := by
      unfold Ln.nfT
      rw [h1]
      simp
    have e2 : Ln.nfB b ts = b := by
      unfold Ln.nfB
      rw [h1, Int.ediv_one]
    rw [e1, e2]
    refine Es.tup (Es.cons (Es.frz (co := .lst (ints' ts)) ?_) (Es.cons (Es.var rfl) Es.nil)) (hle _ _)
    rcases hq with rfl | rfl
    · exact Es.lstOfL (Es.var rfl)
    · exact Es.lstOfT (Es.var rfl)
  · refine mOf_ok rfl (sl := [.v q, .v (.int b), .v (.int 0), .un, .v (.int (Ln.sh b ts))]) ?_
    unfold b_line_of
    simp only [List.map_cons, List.map_nil, Nat.reduceSub, List.replicate_succ, List.replicate_zero, List.cons_append, List.nil_append, List.replicate]
    refine pre (Ss.ret (Es.ifT (Es.tst (Es.bin (Es.var rfl) Es.c (neD_int _ _))) (by rw [decide_eq_false h1]; rfl) ?_))
    refine Es.tup (Es.cons (Es.frz (co := .lst (ints' (Ln.nfT b ts))) ?_) (Es.cons (Es.bin (Es.var rfl) (Es.var rfl) (divD_ok hs hsz (Ln.sh_dvd_b b ts))) Es.nil)) (hle _ _)
    have := Es.compB (e := sBin divD (sVar 3) (sVar 4)) (tg := gSet 3) (vs := [3]) (l2 := ⟨[.v q, .v (.int b), .v (.int 0), .un, .v (.int (Ln.sh b ts))], g⟩) D.int (fun t => D.int (t / Ln.sh b ts)) (Es.items (l := ⟨[.v q, .v (.int b), .v (.int 0), x', .v (.int (Ln.sh b ts))], g⟩) (a := sVar 0) (Es.var rfl) hqs) rfl hlz (fun t ht => ⟨_, _, rfl, Es.bin (Es.var rfl) (Es.var rfl) (divD_ok hs hsz (Ln.sh_dvd_t ht)), rfl⟩)
    rw [show ints' (Ln.nfT b ts) = ts.map (fun t => D.int (t / Ln.sh b ts)) by unfold ints' Ln.nfT; rw [List.map_map]; rfl]
    exact this

def pairD (q : Rat) : D := .tup [.int q.num, .int q.den]
def lineD (v : List Rat) : D := .tup [.lst (ints' (Ln.T v)), .int (Ln.B v)]
def lcS (s : Int) (q : Rat) : Int := s * q.den / ((Nat.gcd s.natAbs q.den : Nat) : Int)
theorem den_ne (q : Rat) : (q.den : Int) ≠ 0 := Int.ne_of_gt (Int.natCast_pos.mpr q.den_pos)
theorem lcS_eq {s : Int} (h : 0 < s) (q : Rat) : lcS s q = ((Nat.lcm s.natAbs q.den : Nat) : Int) := by
  unfold lcS Nat.lcm
  have : s = (s.natAbs : Int) := (Int.natAbs_of_nonneg (Int.le_of_lt h)).symm
  rw [Int.natCast_ediv, Int.natCast_mul, ← this]
theorem lcS_ok {s D : Int} (h : 0 < s) (hd : s ∣ D) (q : Rat) (hq : (q.den : Int) ∣ D) : 0 < lcS s q ∧ lcS s q ∣ D ∧ s ∣ lcS s q ∧ (q.den : Int) ∣ lcS s q := by
  rw [lcS_eq h]
  have e : s = (s.natAbs : Int) := (Int.natAbs_of_nonneg (Int.le_of_lt h)).symm
  refine ⟨Int.natCast_pos.mpr (Nat.lcm_pos (by omega) q.den_pos), ?_, ?_, Int.natCast_dvd_natCast.mpr (Nat.dvd_lcm_right ..)⟩
  · refine Int.ofNat_dvd_left.mpr (Nat.lcm_dvd ?_ (Int.ofNat_dvd_left.mp hq))
    rw [e] at hd
    exact Int.ofNat_dvd_left.mp hd
  · conv => lhs; rw [e]
    exact Int.natCast_dvd_natCast.mpr (Nat.dvd_lcm_left ..)
theorem fold_lc : ∀ (v : List Rat) (s D : Int), 0 < s → s ∣ D → (∀ q ∈ v, (q.den : Int) ∣ D) → s ∣ v.foldl lcS s ∧ 0 < v.foldl lcS s ∧ v.foldl lcS s ∣ D ∧ ∀ q ∈ v, (q.den : Int) ∣ v.foldl lcS s
  | [], s, D, h, hd, _ => ⟨Int.dvd_refl s, h, hd, fun _ h => by cases h⟩
  | q :: v, s, D, h, hd, hv => by
    obtain ⟨a1, a2, a3, a4⟩ := lcS_ok h hd q (hv q List.mem_cons_self)
    obtain ⟨b1, b2, b3, b4⟩ := fold_lc v (lcS s q) D a1 a2 fun p hp => hv p (List.mem_cons_of_mem _ hp)
    refine ⟨Int.dvd_trans a3 b1, b2, b3, fun p hp => ?_⟩
    rcases List.mem_cons.mp hp with rfl | hp
    · exact Int.dvd_trans a4 b1
    · exact b4 p hp
theorem val_over (v : List Rat) (S : Int) (hS : 0 < S) (h : ∀ q ∈ v, (q.den : Int) ∣ S) : Ln.val S (v.map fun q => q.num * (S / q.den)) = v := by
  unfold Ln.val
  rw [List.map_map]
  conv => rhs; rw [← List.map_id v]
  refine List.map_congr_left fun q hq => ?_
  have h1 := Ln.ne_rat (den_ne q)
  have h2 := Ln.ne_rat (Int.ne_of_gt hS)
  show ((q.num * (S / q.den) : Int) : Rat) / _ = q
  rw [Rat.intCast_mul, Ln.div_exact (den_ne q) (h q hq)]
  have h3 := Ln.num_div_den q
  grind
theorem fold_pair2 {γ : Type} (it : γ → Slot × Slot) (f : Int → γ → Int) : ∀ (ts : List γ) (x : Slot × Slot) (s : Int), ∃ x', ts.foldl (fun (p : (Slot × Slot) × Int) t => (it t, f p.2 t)) (x, s) = (x', ts.foldl f s)
  | [], x, s => ⟨x, rfl⟩
  | t :: ts, x, s => fold_pair2 it f ts (it t) (f s t)
theorem ev_line_of_pairs {v : List Rat} (h0 : v ≠ []) (hl : v.length ≤ 1000) (hz : Sz (Ln.den v)) (hn : ∀ q ∈ v, Sz q.num) (g : G) : m_line_of_pairs [.lst (v.map pairD)] g = .ok (.v (lineD v)) g := by
  have hlz : v.length ≤ szL := Nat.le_trans hl (by decide)
  obtain ⟨-, S0, S1, S2⟩ := fold_lc v 1 (Ln.den v) (by decide) (Int.one_dvd _) (Ln.den_dvd v)
  have hD := Ln.den_pos v
  have sz : ∀ {x : Int}, x ∣ Ln.den v → Sz x := fun d => sz_dvd (Int.ne_of_gt hD) hz d
  obtain ⟨x', hx⟩ := fold_pair2 (fun (q : Rat) => (Slot.v (.int q.num), Slot.v (.int q.den))) lcS v (.un, .un) 1
  refine mOf_ok rfl (sl := [.v (.lst (v.map pairD)), .v (.int (v.foldl lcS 1)), .un, .un]) ?_
  unfold b_line_of_pairs
  simp only [List.map_cons, List.map_nil, Nat.reduceSub, List.replicate_succ, List.replicate_zero, List.cons_append, List.nil_append, List.replicate]
  refine Ss.seq (Ss.set Es.c (by simp only [List.set_cons_zero, List.set_cons_succ] <;> rfl)) (Ss.seq (l1 := ⟨[.v (.lst (v.map pairD)), .v (.int (v.foldl lcS 1)), x'.1, x'.2], g⟩) ?_ (Ss.ret ?_))
  · refine Ss.forI (Es.items (Es.var rfl) rfl) ?_
    have := (for_foldI (tg := gTupD 2 (gsCons (gSet 2) (gsCons (gSet 3) gsNil))) (p := (zSet 1 (sBin divD (sBin mulD (sVar 1) (sVar 3)) (sBlt gcdD (sCons (sVar 1) (sCons (sVar 3) sNil)))))) pairD
      (fun (p : (Slot × Slot) × Int) => (⟨[.v (.lst (v.map pairD)), .v (.int p.2), p.1.1, p.1.2], g⟩ : LSt)) (fun p q => ((Slot.v (.int q.num), Slot.v (.int q.den)), lcS p.2 q)) (fun p => 0 < p.2 ∧ p.2 ∣ Ln.den v) v ((.un, .un), 1) ⟨by decide, Int.one_dvd _⟩ (fun y q hy hq => by
        obtain ⟨a1, a2, a3, a4⟩ := lcS_ok hy.1 hy.2 q (Ln.den_dvd v q hq)
        refine ⟨⟨a1, a2⟩, _, rfl, ?_⟩
        have hg : ((Nat.gcd y.2.natAbs q.den : Nat) : Int) ∣ y.2 := Int.ofNat_dvd_left.mpr (Nat.gcd_dvd_left ..)
        have hg0 : ((Nat.gcd y.2.natAbs q.den : Nat) : Int) ≠ 0 := Int.ne_of_gt (Int.natCast_pos.mpr (Nat.gcd_pos_of_pos_right _ q.den_pos))
        exact Ss.set (Es.bin (Es.bin (Es.var rfl) (Es.var rfl) (mulD_ok (Sz.mul (sz hy.2) (sz (Ln.den_dvd v q hq))))) (Es.blt (Es.cons (Es.var rfl) (Es.cons (Es.var rfl) Es.nil)) rfl) (divD_ok hg0 (sz (Int.dvd_trans hg hy.2)) (Int.dvd_trans hg (Int.dvd_mul_right ..)))) rfl)).1
    rw [hx] at this
    exact this
  · have e := Ln.nf_BT (Int.ne_of_gt S0) (v.map fun q => q.num * (v.foldl lcS 1 / q.den))
    rw [val_over v _ S0 S2] at e
    unfold lineD
    rw [← e.1, ← e.2]
    refine Es.callV (ds := [.lst (ints' (v.map fun q => q.num * (v.foldl lcS 1 / q.den))), .int (v.foldl lcS 1), .int 0]) (Es.cons (Es.frz (co := .lst (ints' (v.map fun q => q.num * (v.foldl lcS 1 / q.den)))) ?_) (Es.cons (Es.var rfl) (Es.cons Es.c Es.nil))) fun g => ev_line_of0 (.inl rfl) (by simpa using h0) (by simpa using hl) (Int.ne_of_gt S0) (sz S1) g
    unfold ints'
    rw [List.map_map]
    exact Es.compB pairD (fun q => D.int (q.num * (v.foldl lcS 1 / q.den))) (Es.items (Es.var rfl) rfl) rfl hlz fun q hq => ⟨_, _, rfl, Es.bin (Es.var rfl) (Es.bin (Es.var rfl) (Es.var rfl) (divD_ok (den_ne q) (sz (Ln.den_dvd v q hq)) (S2 q hq))) (mulD_ok (Sz.mul (hn q hq) (sz_dvd (Int.ne_of_gt S0) (sz S1) (by obtain ⟨k, hk⟩ := S2 q hq; exact ⟨q.den, by rw [hk, Int.mul_ediv_cancel_left _ (den_ne q), Int.mul_comm]⟩)))), rfl⟩

inductive En : D → Rat → Prop where
  | r (q : Rat) : En (ratD q) q
  | i (x : Int) (h : Short x) : En (.int x) (x : Rat)
theorem ev_number_pair {d : D} {q : Rat} (h : En d q) (g : G) : m_number_pair [d] g = .ok (.v (pairD q)) g := by
  cases h with
  | r => rfl
  | i x h => rfl
theorem ev_is_number {d : D} {q : Rat} (h : En d q) (g : G) : m_is_number [d] g = .ok (.v (.bl true)) g := by
  cases h with
  | r => rfl
  | i x h =>
    refine mOf_ok rfl (sl := [.v (.int x)]) ?_
    unfold b_is_number
    simp only [List.map_cons, List.map_nil, Nat.reduceSub, List.replicate_succ, List.replicate_zero, List.cons_append, List.nil_append, List.replicate]
    exact Ss.ret (Es.orVF (Es.un (Es.var rfl) rfl) rfl (Es.callV (Es.cons (Es.var rfl) Es.nil) (ev_integer h)))
theorem ev_is_number_of {d : D} {q : Rat} (h : En d q) (g : G) : m_is_number_of [.int 0, d] g = .ok (.v (.bl true)) g := by
  cases h with
  | r => rfl
  | i x h =>
    refine mOf_ok rfl (sl := [.v (.int 0), .v (.int x)]) ?_
    unfold b_is_number_of
    simp only [List.map_cons, List.map_nil, Nat.reduceSub, List.replicate_succ, List.replicate_zero, List.cons_append, List.nil_append, List.replicate]
    exact Ss.ret (Es.orVT (Es.callV (Es.cons (Es.var rfl) Es.nil) (ev_integer h)) rfl)
theorem all_true {β : Type} : ∀ bs : List β, allD [.lst (bs.map fun _ => D.bl true)] = some (.bl true) := by
  have h : ∀ bs : List β, blsD (bs.map fun _ => D.bl true) = some (bs.map fun _ => true) := fun bs => by
    induction bs with
    | nil => rfl
    | cons b bs ih =>
      show (blsD (bs.map fun _ => D.bl true)).map (true :: ·) = _
      rw [ih]
      rfl
  intro bs
  show (blsD _).map _ = _
  rw [h bs]
  show some (D.bl _) = _
  congr 2
  induction bs with
  | nil => rfl
  | cons b bs ih => exact ih
theorem ev_require_modulus0 (g : G) : m_require_modulus [.int 0] g = .ok (.v .non) g := by kernel_rfl
section
variable {β : Type} {ent : β → D} {rv : β → Rat} {bs : List β}
theorem ev_line_told (he : ∀ b ∈ bs, En (ent b) (rv b)) (h0 : bs ≠ []) (hl : bs.length ≤ 25) (hz : Sz (Ln.den (bs.map rv))) (hn : ∀ b ∈ bs, Sz (rv b).num) (g : G) : m_line_told [.tup (bs.map ent), .int 0] g = .ok (.v (lineD (bs.map rv))) g := by
  have hlz : bs.length ≤ szL := Nat.le_trans hl (by decide)
  have hpos : 1 ≤ bs.length := List.length_pos_iff.mpr h0
  refine mOf_ok rfl (sl := [.v (.tup (bs.map ent)), .v (.int 0), .un]) ?_
  unfold b_line_told
  simp only [List.map_cons, List.map_nil, Nat.reduceSub, List.replicate_succ, List.replicate_zero, List.cons_append, List.nil_append, List.replicate]
  have e1 : Es (sTru (sUn (isoD tj_Made) (sVar 0))) ⟨[.v (.tup (bs.map ent)), .v (.int 0), .un], g⟩ false ⟨[.v (.tup (bs.map ent)), .v (.int 0), .un], g⟩ := Es.tru (Es.un (Es.var rfl) rfl) rfl
  have e2 : Es (sNot (sTru (sUn (isiK tkT 3) (sVar 0)))) ⟨[.v (.tup (bs.map ent)), .v (.int 0), .un], g⟩ false ⟨[.v (.tup (bs.map ent)), .v (.int 0), .un], g⟩ := Es.nt (k := true) (Es.tru (x := .bl true) (Es.un (Es.var rfl) rfl) rfl)
  have ln : lenD [.tup (bs.map ent)] = some (.int (bs.length : Nat)) := by
    show some (D.int ((bs.map ent).length : Nat)) = _
    rw [List.length_map]
  have e3 : Es (sNot (sTst (sChain leD leD (sC (.int (1))) (sBlt lenD (sCons (sVar 0) sNil)) (sBin addD (sC (.int (24))) (sC (.int (1))))))) ⟨[.v (.tup (bs.map ent)), .v (.int 0), .un], g⟩ false ⟨[.v (.tup (bs.map ent)), .v (.int 0), .un], g⟩ :=
    Es.nt (k := true) (Es.tst (Es.chain Es.c (Es.blt (Es.cons (Es.var rfl) Es.nil) ln) (congrArg (fun b => some (D.bl b)) (decide_eq_true (by omega))) (Es.bin Es.c Es.c rfl) (congrArg (fun b => some (D.bl b)) (decide_eq_true (by omega)))))
  have al : ∀ {m : Fm} {f : LSt → Res (List D)}, (∀ b ∈ bs, Es (sCall m f) ⟨[.v (.tup (bs.map ent)), .v (.int 0), .v (ent b)], g⟩ (.bl true) ⟨[.v (.tup (bs.map ent)), .v (.int 0), .v (ent b)], g⟩) →
      Es (sNot (sTru (sBlt allD (sCons (sFrz (sComp (sItems (sVar 0)) (gSet 2) sYes (sCall m f) [2])) sNil)))) ⟨[.v (.tup (bs.map ent)), .v (.int 0), .un], g⟩ false ⟨[.v (.tup (bs.map ent)), .v (.int 0), .un], g⟩ := fun h =>
    Es.nt (k := true) (Es.tru (x := .bl true) (Es.blt (Es.cons (Es.frz (co := .lst (bs.map fun _ => D.bl true)) (Es.compB ent (fun _ => D.bl true) (Es.items (Es.var rfl) rfl) rfl hlz fun b hb => ⟨_, _, rfl, h b hb, rfl⟩)) Es.nil) (all_true bs)) rfl)
  refine Ss.seq (Ss.ifF e1 rfl Ss.next) (Ss.seq (Ss.ifF (Es.orF e2 rfl e3) rfl Ss.next) (Ss.seq (Ss.ifF (al fun b hb => Es.callV (Es.cons (Es.var rfl) Es.nil) (ev_is_number (he b hb))) rfl Ss.next) (Ss.seq (Ss.drop (Es.callV (Es.cons (Es.var rfl) Es.nil) ev_require_modulus0))
    (Ss.seq (Ss.ifF (al fun b hb => Es.callV (Es.cons (Es.var rfl) (Es.cons (Es.var rfl) Es.nil)) (ev_is_number_of (he b hb))) rfl Ss.next) (Ss.seq (Ss.ifF (Es.tst (Es.bin (Es.var rfl) Es.c rfl)) rfl Ss.next) (Ss.ret ?_))))))
  refine Es.callV (ds := [.lst ((bs.map rv).map pairD)]) (Es.cons (Es.frz (co := .lst ((bs.map rv).map pairD)) ?_) Es.nil) fun g => ev_line_of_pairs (by simpa using h0) (by rw [List.length_map]; omega) hz (fun q hq => by obtain ⟨b, hb, rfl⟩ := List.mem_map.mp hq; exact hn b hb) g
  rw [List.map_map]
  exact Es.compB ent (fun b => pairD (rv b)) (Es.items (Es.var rfl) rfl) rfl hlz fun b hb => ⟨_, _, rfl, Es.callV (Es.cons (Es.var rfl) Es.nil) (ev_number_pair (he b hb)), rfl⟩
end

def ordD (ts : List Int) : D := match DxE.fstI ts with
  | some i => .int (i : Int)
  | none => .non
def rowD (v : List Rat) : D := .ins 3 [.int (Ln.B v), .tup (v.map ratD), .int 0, ordD (Ln.T v), .tup (ints' (Ln.T v))]
theorem intsD_ints : ∀ ts : List Int, intsD (ints' ts) = some ts
  | [] => rfl
  | t :: ts => by
    show (intsD (ints' ts)).map (t :: ·) = _
    rw [intsD_ints ts]
    rfl
theorem nextD_ints (ts : List Int) : nextD (.tup (ints' ts)) = some (ordD ts) := by
  show (intsD (ints' ts)).map _ = _
  rw [intsD_ints]
  rfl
theorem entries_of (v : List Rat) : (Ln.T v).map (fun (t : Int) => ratD ((t : Rat) / (Ln.B v : Rat))) = v.map ratD := by
  conv => rhs; rw [← Ln.val_BT v]
  unfold Ln.val
  rw [List.map_map]
  rfl
inductive Li : D → List Rat → Prop where
  | l (v : List Rat) : Li (.tup [.lst (ints' (Ln.T v)), .int (Ln.B v)]) v
  | t (v : List Rat) : Li (.tup [.tup (ints' (Ln.T v)), .int (Ln.B v)]) v
theorem ev_Row_of {d q : D} {v : List Rat} (hq : Li q v) (hl : ∀ g, m_line_told [d, .int 0] g = .ok (.v q) g) (hlen : v.length ≤ 1000) (hB : Sz (Ln.B v)) (g : G) : mkC 3 i_Row [d, .int 0] g = .ok (.v (rowD v)) g := by
  have hlz : (Ln.T v).length ≤ szL := by rw [Ln.T_length]; exact Nat.le_trans hlen (by decide)
  have hB0 : Ln.B v ≠ 0 := Int.ne_of_gt (Ln.B_pos v)
  refine mk_ok (f := some (.int (Ln.B v))) (fs := [some (.tup (v.map ratD)), some (.int 0), some (ordD (Ln.T v)), some (.tup (ints' (Ln.T v)))]) ?_ rfl
  refine mOfI_nx rfl (sl := [.slf, .v d, .v (.int 0), .v q, .v (.tup (ints' (Ln.T v))), .v (.int (Ln.B v)), .un]) ?_
  unfold b_Row_init
  simp only [List.map_cons, List.map_nil, Nat.reduceSub, List.replicate_succ, List.replicate_zero, List.cons_append, List.nil_append, List.replicate]
  have e1 : ∀ (sl : List Slot) (g : G), sl[3]? = some (.v q) → Es (sTup (sCons (sBlt tupD (sCons (sBin ixD (sVar 3) (sC (.int (0)))) sNil)) (sCons (sBin ixD (sVar 3) (sC (.int (1)))) sNil))) ⟨sl, g⟩ (.tup [.tup (ints' (Ln.T v)), .int (Ln.B v)]) ⟨sl, g⟩ := fun sl g h3 => by
    cases hq with
    | l => exact Es.tup (Es.cons (Es.blt (Es.cons (Es.bin (Es.var h3) Es.c rfl) Es.nil) rfl) (Es.cons (Es.bin (Es.var h3) Es.c rfl) Es.nil)) (by show 2 ≤ szL; decide)
    | t => exact Es.tup (Es.cons (Es.blt (Es.cons (Es.bin (Es.var h3) Es.c rfl) Es.nil) rfl) (Es.cons (Es.bin (Es.var h3) Es.c rfl) Es.nil)) (by show 2 ≤ szL; decide)
  refine Ss.seq (Ss.set (Es.callV (Es.cons (Es.var rfl) (Es.cons (Es.var rfl) Es.nil)) hl) (by simp only [List.set_cons_zero, List.set_cons_succ] <;> rfl)) ?_
  refine Ss.seq (Ss.asg (l2 := ⟨[.slf, .v d, .v (.int 0), .v q, .v (.tup (ints' (Ln.T v))), .v (.int (Ln.B v)), .un], _⟩) (e1 _ _ rfl) rfl) ?_
  refine Ss.seq (Ss.self (fs2 := [none, none, none, none, some (.tup (ints' (Ln.T v)))]) (Es.var rfl) rfl rfl rfl) ?_
  refine Ss.seq (Ss.self (fs2 := [some (.int (Ln.B v)), none, none, none, some (.tup (ints' (Ln.T v)))]) (Es.var rfl) rfl rfl rfl) ?_
  refine Ss.seq (Ss.self (fs2 := [some (.int (Ln.B v)), none, some (.int 0), none, some (.tup (ints' (Ln.T v)))]) (Es.var rfl) rfl rfl rfl) ?_
  refine Ss.seq (Ss.self (fs2 := [some (.int (Ln.B v)), none, some (.int 0), some (ordD (Ln.T v)), some (.tup (ints' (Ln.T v)))]) (Es.un (Es.var rfl) (nextD_ints _)) rfl rfl rfl) ?_
  refine Ss.self (d := .tup (v.map ratD)) (fs := [some (.int (Ln.B v)), none, some (.int 0), some (ordD (Ln.T v)), some (.tup (ints' (Ln.T v)))]) (n := 3) (Es.ifF (Es.tst (Es.bin (Es.var rfl) Es.c rfl)) rfl ?_) rfl rfl rfl
  refine Es.blt (ds := [.lst (v.map ratD)]) (Es.cons (Es.frz (co := .lst (v.map ratD)) ?_) Es.nil) rfl
  rw [← entries_of v]
  exact Es.compB D.int (fun (t : Int) => ratD ((t : Rat) / (Ln.B v : Rat))) (Es.items (Es.var rfl) rfl) rfl hlz fun t ht => ⟨_, _, rfl, Es.callV (Es.cons (Es.var rfl) (Es.cons (Es.var rfl) Es.nil)) (ev_ratio_of t (Ln.B v) hB0 hB), rfl⟩
theorem B_le (v : List Rat) : (Ln.B v).natAbs ≤ (Ln.den v).natAbs := Ln.nfB_le (Int.ne_of_gt (Ln.den_pos v)) _
theorem sz_B {v : List Rat} (h : Sz (Ln.den v)) : Sz (Ln.B v) := Nat.lt_of_le_of_lt (B_le v) h
theorem ev_Row {β : Type} {ent : β → D} {rv : β → Rat} {bs : List β} (he : ∀ b ∈ bs, En (ent b) (rv b)) (h0 : bs ≠ []) (hl : bs.length ≤ 25) (hz : Sz (Ln.den (bs.map rv))) (hn : ∀ b ∈ bs, Sz (rv b).num) (g : G) :
    mkC 3 i_Row [.tup (bs.map ent), .int 0] g = .ok (.v (rowD (bs.map rv))) g :=
  ev_Row_of (.l _) (fun g => ev_line_told he h0 hl hz hn g) (by rw [List.length_map]; omega) (sz_B hz) g
theorem deqs_ints : ∀ (n : Nat) (ts : List Int), deqs n (ints' ts) (ints' ts) = true
  | _, [] => by unfold ints' deqs; rfl
  | n, t :: ts => by
    show (deq n (.int t) (.int t) && deqs n (ints' ts) (ints' ts)) = true
    rw [deqs_ints n ts, Bool.and_true]
    cases n <;> exact beq_self_eq_true t
theorem eqX_tups (ts : List Int) : eqX (.tup (ints' ts)) (.tup (ints' ts)) = some (.bl true) := eqX_deq (deqs_ints 40 ts) rfl
theorem ev_row_eq (v : List Rat) (g : G) : m_Row___eq__ [rowD v, rowD v] g = .ok (.v (.bl true)) g := by
  refine mOf_ok rfl (sl := [.v (rowD v), .v (rowD v)]) ?_
  unfold b_Row___eq__
  simp only [List.map_cons, List.map_nil, Nat.reduceSub, List.replicate_succ, List.replicate_zero, List.cons_append, List.nil_append, List.replicate]
  refine Ss.seq (Ss.ifF (Es.orF (k := false) (Es.nt (k := true) (Es.tru (x := .bl true) (Es.un (Es.var rfl) rfl) rfl)) rfl (Es.tst (Es.bin (Es.attr (Es.var rfl) rfl rfl) (Es.attr (Es.var rfl) rfl rfl) (neD_int 0 0)))) rfl Ss.next) (Ss.ret ?_)
  refine Es.andVT (k := true) (Es.bin (Es.attr (Es.var rfl) rfl rfl) (Es.attr (Es.var rfl) rfl rfl) (eqX_tups _)) rfl (Es.bin (Es.attr (Es.var rfl) rfl rfl) (Es.attr (Es.var rfl) rfl rfl) ?_)
  rw [eqX_int, decide_eq_true rfl]
theorem eqO_row (neg : Bool) (v : List Rat) : eqO teqT tkT neg (rowD v) (rowD v) = some (.bl (!neg)) := by
  have e : pureD m_Row___eq__ [rowD v, rowD v] = some (.bl true) := by
    unfold pureD
    rw [ev_row_eq]
  have e' : pureD m_Row___eq__ [.ins 3 [.int (Ln.B v), .tup (v.map ratD), .int 0, ordD (Ln.T v), .tup (ints' (Ln.T v))], rowD v] = some (.bl true) := e
  have k : knownD tkT (rowD v) = true := rfl
  unfold eqO
  show (if knownD tkT (rowD v) = true then (blO (pureD m_Row___eq__ [.ins 3 _, rowD v])).map fun b => D.bl (b != neg) else none) = _
  rw [if_pos k, e']
  cases neg <;> rfl
theorem ne_rows (v : List Rat) : neY teqT tkT (rowD v) (rowD v) = some (.bl false) := eqO_row true v
theorem eq_rows (v : List Rat) : eqY teqT tkT (rowD v) (rowD v) = some (.bl true) := eqO_row false v
theorem T_zero {v : List Rat} : Ln.T (0 :: v) = 0 :: (Ln.T (0 :: v)).tail := by
  unfold Ln.T Ln.nfT Ln.tops
  rw [List.map_cons, List.map_cons, List.tail_cons]
  congr 1
  rw [show (0 : Rat).num = 0 from rfl, Int.zero_mul, Int.zero_ediv]
def spr {α : Type} [Inhabited α] (z : α) (ts : List α) (n : Nat) : List α := (List.range ts.length).map fun p => if p % n = 0 then ts.getD (p / n) z else z
theorem spr_map {α β : Type} [Inhabited α] [Inhabited β] (f : α → β) (z : α) (ts : List α) (n : Nat) : (spr z ts n).map f = spr (f z) (ts.map f) n := by
  unfold spr
  rw [List.map_map, List.length_map]
  refine List.map_congr_left fun p _ => ?_
  show f (if p % n = 0 then ts.getD (p / n) z else z) = _
  split
  · simp [List.getD, List.getElem?_map, Option.getD_map]
  · rfl
theorem spr_length {α : Type} [Inhabited α] (z : α) (ts : List α) (n : Nat) : (spr z ts n).length = ts.length := by simp [spr]

theorem lenD_ints (ts : List Int) : lenD [.tup (ints' ts)] = some (.int (ts.length : Nat)) := by
  show some (D.int ((ints' ts).length : Nat)) = _
  unfold ints'
  rw [List.length_map]
theorem atD_ints {ts : List Int} {i : Nat} (h : i < ts.length) : atD (ints' ts) (i : Int) = some (.int (ts.getD i 0)) := by
  unfold atD
  rw [if_pos (Int.natCast_nonneg i), Int.toNat_natCast]
  unfold ints'
  rw [List.getElem?_map, List.getElem?_eq_getElem h]
  simp [List.getD, List.getElem?_eq_getElem h]
theorem short_nat {n : Nat} (h : n < 2 ^ 60) : Short (n : Int) := ⟨by omega, by have : (2 : Nat) ^ 60 < 1000000000000000000000000000000000000000000000000000000000000 := by decide
                                                                                omega⟩
theorem val_spr (b : Int) (ts : List Int) (n : Nat) : Ln.val b (spr 0 ts n) = spr 0 (Ln.val b ts) n := by
  unfold Ln.val
  rw [spr_map (fun (t : Int) => ((t : Rat) / (b : Rat))) 0 ts n]
  congr 1
  show ((0 : Int) : Rat) / (b : Rat) = 0
  rw [Rat.intCast_zero, Rat.div_def, Rat.zero_mul]
def Lt (k : Nat) (x : Int) : Prop := x.natAbs < 2 ^ k
theorem Lt.mul {a b : Nat} {x y : Int} (h : Lt a x) (k : Lt b y) : Lt (a + b) (x * y) := by
  unfold Lt at *
  rw [Int.natAbs_mul, Nat.pow_add]
  exact Nat.mul_lt_mul_of_lt_of_le h (Nat.le_of_lt k) (Nat.two_pow_pos b)
theorem Lt.mono {a b : Nat} {x : Int} (h : Lt a x) (k : a ≤ b) : Lt b x := Nat.lt_of_lt_of_le h (Nat.pow_le_pow_right (by decide) k)
theorem Lt.sz {a : Nat} {x : Int} (h : Lt a x) (k : a ≤ 8000) : Sz x := h.mono k
theorem Lt.pow {e : Nat} {x : Int} (h : Lt e x) (he : 1 ≤ e) : ∀ i : Nat, Lt (1 + e * i) (x ^ i)
  | 0 => by
    rw [Int.pow_zero]
    show (1 : Nat) < 2 ^ (1 + e * 0)
    simp
  | i + 1 => by
    rw [Int.pow_succ]
    exact (Lt.mul (Lt.pow h he i) h).mono (by rw [Nat.mul_succ]; omega)
theorem getD_ints {ts : List Int} {i : Nat} {d : D} (h : (ints' ts)[i]? = some d) : i < ts.length ∧ d = .int (ts.getD i 0) := by
  unfold ints' at h
  rw [List.getElem?_map] at h
  cases e : ts[i]? with
  | none => rw [e] at h; cases h
  | some t =>
    rw [e] at h
    cases h
    exact ⟨(List.getElem?_eq_some_iff.mp e).1, by simp [List.getD, e]⟩
theorem getD_mem {ts : List Int} {i : Nat} (h : i < ts.length) : ts.getD i 0 ∈ ts := by
  simp only [List.getD, List.getElem?_eq_getElem h, Option.getD_some]
  exact List.getElem_mem h
theorem ixD_lst {ts : List Int} {i : Nat} {x : Int} (h : ts[i]? = some x) : ixD (.lst (ints' ts)) (.int (i : Int)) = some (.int x) := by
  show atD (ints' ts) (i : Int) = _
  unfold atD
  rw [if_pos (Int.natCast_nonneg i), Int.toNat_natCast]
  unfold ints'
  rw [List.getElem?_map, h]
  rfl
def gcdT : LSt → Res Bool := sTst (sBin gtD (sVar 1) (sC (.int (0))))
def gcdB : LSt → Fl := zPar 0 1 (sCons (sVar 1) (sCons (sBin modD (sBlt intD (sCons (sVar 0) sNil)) (sVar 1)) sNil))
theorem gcd_turn (a b n : Nat) (g : G) (hb : 0 < b) : zWhile gcdT gcdB (n + 1) ⟨[.v (.int a), .v (.int b)], g⟩ = zWhile gcdT gcdB n ⟨[.v (.int b), .v (.int ((a % b : Nat) : Int))], g⟩ := by
  have e1 : gcdT ⟨[.v (.int a), .v (.int b)], g⟩ = .ok true ⟨[.v (.int a), .v (.int b)], g⟩ := by
    have h : Es gcdT ⟨[.v (.int a), .v (.int b)], g⟩ (decide ((b : Int) > 0)) ⟨[.v (.int a), .v (.int b)], g⟩ := Es.tst (Es.bin (Es.var rfl) Es.c rfl)
    rw [decide_eq_true (show (b : Int) > 0 by omega)] at h
    exact h
  have e2 : gcdB ⟨[.v (.int a), .v (.int b)], g⟩ = .nx ⟨[.v (.int b), .v (.int ((a % b : Nat) : Int))], g⟩ := by
    have h : Es (sCons (sVar 1) (sCons (sBin modD (sBlt intD (sCons (sVar 0) sNil)) (sVar 1)) sNil)) ⟨[.v (.int a), .v (.int b)], g⟩ [.int b, .int ((a : Int) % (b : Int))] ⟨[.v (.int a), .v (.int b)], g⟩ :=
      Es.cons (Es.var rfl) (Es.cons (Es.bin (Es.blt (Es.cons (Es.var rfl) Es.nil) rfl) (Es.var rfl) (modD_pos (by omega))) Es.nil)
    unfold gcdB zPar
    unfold Es at h
    rw [h]
    rfl
  show (gcdT _).toFl _ = _
  rw [e1]
  simp only [Res.toFl, if_true, e2]
theorem gcd_end (a n : Nat) (g : G) : zWhile gcdT gcdB (n + 1) ⟨[.v (.int a), .v (.int 0)], g⟩ = .nx ⟨[.v (.int a), .v (.int 0)], g⟩ := rfl
theorem mod_half {b r : Nat} (hr : 0 < r) (h : r < b) : 2 * (b % r) < b := by
  have h1 := Nat.mod_lt b hr
  have h2 := Nat.div_add_mod b r
  have h3 : 1 ≤ b / r := (Nat.one_le_div_iff hr).mpr (Nat.le_of_lt h)
  have h4 : r ≤ r * (b / r) := Nat.le_mul_of_pos_right r h3
  omega
theorem gcd_loop (g : G) : ∀ (k a b n : Nat), b < 2 ^ k → 2 * k < n → zWhile gcdT gcdB n ⟨[.v (.int a), .v (.int b)], g⟩ = .nx ⟨[.v (.int (Nat.gcd a b : Nat)), .v (.int 0)], g⟩
  | 0, a, b, n + 1, h, _ => by
    have : b = 0 := by omega
    subst this
    rw [Nat.gcd_zero_right]
    exact gcd_end a n g
  | k + 1, a, b, n + 2, h, hn => by
    by_cases hb : b = 0
    · subst hb
      rw [Nat.gcd_zero_right]
      exact gcd_end a (n + 1) g
    · rw [gcd_turn a b (n + 1) g (by omega)]
      by_cases hr : a % b = 0
      · rw [hr]
        have : Nat.gcd a b = b := by rw [Nat.gcd_comm, Nat.gcd_rec, hr, Nat.gcd_zero_left]
        rw [this]
        exact gcd_end b n g
      · have hr0 : 0 < a % b := Nat.pos_of_ne_zero hr
        have hrb : a % b < b := Nat.mod_lt a (by omega)
        rw [gcd_turn b (a % b) n g hr0]
        have := mod_half hr0 hrb
        rw [gcd_loop g k (a % b) (b % (a % b)) n (by rw [Nat.pow_succ] at h; omega) (by omega)]
        have e : Nat.gcd (a % b) (b % (a % b)) = Nat.gcd a b := by
          rw [Nat.gcd_comm a b, Nat.gcd_rec b a, Nat.gcd_rec (a % b) b, Nat.gcd_comm]
        rw [e]
  | k + 1, _, _, 0, _, hn => absurd hn (by omega)
  | k + 1, _, _, 1, _, hn => absurd hn (by omega)
  | 0, _, _, 0, _, hn => absurd hn (by omega)
theorem absD_nat (t : Int) : absD [.int t] = some (.int (t.natAbs : Nat)) := by
  show some (D.int (if t < 0 then -t else t)) = _
  congr 2
  split <;> omega
theorem ev_law_gcd (t b : Int) (hz : Sz b) (g : G) : m__law_gcd [.int t, .int b] g = .ok (.v (.int (Nat.gcd t.natAbs b.natAbs : Nat))) g := by
  refine mOf_ok rfl (sl := [.v (.int (Nat.gcd t.natAbs b.natAbs : Nat)), .v (.int 0)]) ?_
  unfold b__law_gcd
  simp only [List.map_cons, List.map_nil, Nat.reduceSub, List.replicate_succ, List.replicate_zero, List.cons_append, List.nil_append, List.replicate]
  have h1 : Ss (zPar 0 1 (sCons (sBlt absD (sCons (sVar 0) sNil)) (sCons (sBlt absD (sCons (sVar 1) sNil)) sNil))) ⟨[.v (.int t), .v (.int b)], g⟩ (.nx ⟨[.v (.int (t.natAbs : Nat)), .v (.int (b.natAbs : Nat))], g⟩) := by
    have h : Es (sCons (sBlt absD (sCons (sVar 0) sNil)) (sCons (sBlt absD (sCons (sVar 1) sNil)) sNil)) ⟨[.v (.int t), .v (.int b)], g⟩ [.int (t.natAbs : Nat), .int (b.natAbs : Nat)] ⟨[.v (.int t), .v (.int b)], g⟩ :=
      Es.cons (Es.blt (Es.cons (Es.var rfl) Es.nil) (absD_nat t)) (Es.cons (Es.blt (Es.cons (Es.var rfl) Es.nil) (absD_nat b)) Es.nil)
    unfold Ss zPar
    unfold Es at h
    rw [h]
    rfl
  exact Ss.seq h1 (Ss.seq (gcd_loop g 8000 t.natAbs b.natAbs 20000 hz (by decide)) (Ss.ret (Es.var rfl)))
theorem ev_law_ratio (t b : Int) (h : b ≠ 0) (hz : Sz b) (g : G) : m__law_ratio [.int t, .int b] g = .ok (.v (pairD ((t : Rat) / b))) g := by
  obtain ⟨h1, h2⟩ := Ln.nf_one (t := t) h
  have hs := Ln.sh_ne h [t]
  have d1 : Ln.sh b [t] ∣ t := Ln.sh_dvd_t (List.mem_singleton.mpr rfl)
  have d2 : Ln.sh b [t] ∣ b := Ln.sh_dvd_b b [t]
  refine mOf_ok rfl (sl := [.v (.int t), .v (.int b), .v (.int (Ln.sh b [t]))]) ?_
  unfold b__law_ratio
  simp only [List.map_cons, List.map_nil, Nat.reduceSub, List.replicate_succ, List.replicate_zero, List.cons_append, List.nil_append, List.replicate]
  refine Ss.seq (Ss.set (Es.callV (Es.cons (Es.var rfl) (Es.cons (Es.var rfl) Es.nil)) (ev_law_gcd t b hz)) (by simp only [List.set_cons_zero, List.set_cons_succ] <;> rfl)) (Ss.seq (l1 := ⟨[.v (.int t), .v (.int b), .v (.int (Ln.sh b [t]))], g⟩) ?_ (Ss.ret ?_))
  · rw [sh_sgn]
    by_cases hb : b < 0
    · rw [if_pos hb]
      exact Ss.ifT (Es.tst (Es.bin (Es.var rfl) Es.c rfl)) (decide_eq_true hb) (Ss.set (Es.un (Es.var rfl) rfl) rfl)
    · rw [if_neg hb]
      exact Ss.ifF (Es.tst (Es.bin (Es.var rfl) Es.c rfl)) (decide_eq_false hb) Ss.next
  · unfold pairD
    rw [← h1, ← h2]
    exact Es.tup (Es.cons (Es.bin (Es.var rfl) (Es.var rfl) (divD_ok hs (sz_sh h hz) d1)) (Es.cons (Es.bin (Es.var rfl) (Es.var rfl) (divD_ok hs (sz_sh h hz) d2)) Es.nil)) (by show 2 ≤ szL; decide)

theorem div_num_den (q : Rat) : ((q.num : Int) : Rat) / (((q.den : Nat) : Int) : Rat) = q := Ln.num_div_den q
theorem lenD_pairs (v : List Rat) : lenD [.lst (v.map pairD)] = some (.int (v.length : Nat)) := by
  show some (D.int ((v.map pairD).length : Nat)) = _
  rw [List.length_map]
theorem atD_pairs {v : List Rat} {i : Nat} (h : i < v.length) : atD (v.map pairD) (i : Int) = some (pairD (v.getD i 0)) := by
  unfold atD
  rw [if_pos (Int.natCast_nonneg i), Int.toNat_natCast, List.getElem?_map, List.getElem?_eq_getElem h]
  simp [List.getD, List.getElem?_eq_getElem h]
theorem pairs_get {v : List Rat} {i : Nat} {d : D} (h : (v.map pairD)[i]? = some d) : i < v.length ∧ d = pairD (v.getD i 0) := by
  rw [List.getElem?_map] at h
  cases e : v[i]? with
  | none => rw [e] at h; cases h
  | some t =>
    rw [e] at h
    cases h
    exact ⟨(List.getElem?_eq_some_iff.mp e).1, by simp [List.getD, e]⟩
theorem roll_eq : m__law_roll = Dx.Ev.m__law_roll := rfl
theorem pick_eq : m__law_pick = Dx.Ev.m__law_pick := rfl
theorem Es_callG {m : Fm} {r : LSt → Res (List D)} {ds : List D} {d : D} {l : LSt} {sl : List Slot} {g g' : G} (ha : Es r l ds ⟨sl, g⟩) (hm : m ds g = .ok (.v d) g') : Es (sCall m r) l d ⟨sl, g'⟩ := Es.call ha hm
theorem lt_short {x : Int} (h : Lt 190 x) : Short x := by
  have h : x.natAbs < 2 ^ 190 := h
  have e : (2 : Nat) ^ 190 < 1000000000000000000000000000000000000000000000000000000000000 := by decide
  exact ⟨by omega, by omega⟩
theorem lt_zero (a : Nat) : Lt a 0 := Nat.two_pow_pos a
theorem Ss_par3 {i j k : Nat} {fa : LSt → Res (List D)} {x y z : D} {l : LSt} {sl1 sl2 : List Slot} {g1 : G} (h : Es fa l [x, y, z] ⟨sl1, g1⟩) (hs : ((sl1.set i (.v x)).set j (.v y)).set k (.v z) = sl2) : Ss (zPar3 i j k fa) l (.nx ⟨sl2, g1⟩) := by
  subst hs
  unfold Ss Es at *
  unfold zPar3
  rw [h]
  rfl
theorem Ss_par {i j : Nat} {fa : LSt → Res (List D)} {x y : D} {l : LSt} {sl1 sl2 : List Slot} {g1 : G} (h : Es fa l [x, y] ⟨sl1, g1⟩) (hs : (sl1.set i (.v x)).set j (.v y) = sl2) : Ss (zPar i j fa) l (.nx ⟨sl2, g1⟩) := by
  subst hs
  unfold Ss Es at *
  unfold zPar
  rw [h]
  rfl
theorem es_roll {sl : List Slot} (h0 : sl[0]? = some (.v .dice)) {n : Int} (h : 0 < n) (hn : n < 30000) (t : Int × Int × Int) : ∃ (r : Int) (t' : Int × Int × Int), Es (sCall m__law_roll (sCons (sVar 0) (sCons (sC (.int n)) sNil))) ⟨sl, ⟨some t, none⟩⟩ (.int r) ⟨sl, ⟨some t', none⟩⟩ ∧ 0 ≤ r ∧ r < n := by
  obtain ⟨r, t', e, r0, r1⟩ := Dx.Ev.ev_roll t n h hn
  exact ⟨r, t', Es_callG (Es.cons (Es.var h0) (Es.cons Es.c Es.nil)) (by rw [roll_eq]; exact e), r0, r1⟩
theorem es_roll1 {sl : List Slot} (h0 : sl[0]? = some (.v .dice)) {n : Int} (h : 0 < n) (hn : n < 30000) (t : Int × Int × Int) : ∃ (k : Nat) (t' : Int × Int × Int), Es (sBin addD (sC (.int (1))) (sCall m__law_roll (sCons (sVar 0) (sCons (sC (.int n)) sNil)))) ⟨sl, ⟨some t, none⟩⟩ (.int (k : Int)) ⟨sl, ⟨some t', none⟩⟩ ∧ 1 ≤ k ∧ (k : Int) ≤ n := by
  obtain ⟨r, t', e, r0, r1⟩ := es_roll h0 h hn t
  refine ⟨(1 + r).toNat, t', ?_, by omega, by omega⟩
  rw [Int.toNat_of_nonneg (by omega)]
  exact Es.bin Es.c e rfl
theorem next_ne {sl : List Slot} {g : G} {a b : LSt → Res D} {p : LSt → Fl} {d : D} (ha : Es a ⟨sl, g⟩ d ⟨sl, g⟩) (hb : Es b ⟨sl, g⟩ d ⟨sl, g⟩) (hd : neY teqT tkT d d = some (.bl false)) : Es (sTst (sBin (neY teqT tkT) a b)) ⟨sl, g⟩ false ⟨sl, g⟩ := Es.tst (Es.bin ha hb hd)
theorem RT_seq {S : G → Prop} {p q : LSt → Fl} {l : List Slot} (h : ∀ g, S g → ∃ g' l', S g' ∧ Ss p ⟨l, g⟩ (.nx ⟨l', g'⟩) ∧ Dx.Ev.RT S q l') : Dx.Ev.RT S (zSeq p q) l := Dx.Ev.RT.step h
end K08

namespace K08
open PySem PySem.Spec PyProof.Rows L2 Dx
open Cv (mk co it)
def pairP (q : Rat) : PyData := .tuple [.int q.num, .int q.den]
theorem pds_pairs : ∀ v : List Rat, D.pds (v.map pairD) = some (v.map pairP)
  | [] => rfl
  | q :: v => by
    show (match (pairD q).pd, D.pds (v.map pairD) with
      | some x, some xs => some (x :: xs)
      | _, _ => none) = _
    rw [pds_pairs v]
    rfl
theorem lay_pairs : ∀ v : List Rat, PyData.canLayAll0 (v.map pairP) = true
  | [] => rfl
  | q :: v => by
    show (PyData.canLay0 (pairP q) && PyData.canLayAll0 (v.map pairP)) = true
    rw [lay_pairs v]
    rfl
theorem dep_pairs : ∀ v : List Rat, PyData.depthAll (v.map pairP) ≤ 1
  | [] => Nat.zero_le _
  | q :: v => by
    show max (PyData.depth (pairP q)) (PyData.depthAll (v.map pairP)) ≤ 1
    have := dep_pairs v
    have h : PyData.depth (pairP q) = 1 := rfl
    omega
theorem eqv_pairs : ∀ v : List Rat, PyData.eqvAll (v.map pairP) (v.map pairP) = true
  | [] => rfl
  | q :: v => by
    show (PyData.eqv (pairP q) (pairP q) && PyData.eqvAll (v.map pairP) (v.map pairP)) = true
    rw [eqv_pairs v, Bool.and_true]
    show ((q.num == q.num) && (((q.den : Int) == (q.den : Int)) && true)) = true
    simp
theorem pd_pairs (v : List Rat) : (D.lst (v.map pairD)).pd = some (.list (v.map pairP)) := by
  show (D.pds (v.map pairD)).map PyData.list = _
  rw [pds_pairs]
  rfl
theorem sh_pairs (v : List Rat) : SeqAt.shaped (.list (v.map pairP)) = true := by
  have h1 : PyData.canLay0 (.list (v.map pairP)) = true := lay_pairs v
  have h2 : PyData.depth (.list (v.map pairP)) ≤ 64 := by
    show PyData.depthAll (v.map pairP) + 1 ≤ 64
    have := dep_pairs v
    omega
  unfold SeqAt.shaped
  rw [h1, decide_eq_true h2]
  rfl
theorem ne_pairs (v : List Rat) : neY teqT tkT (.lst (v.map pairD)) (.lst (v.map pairD)) = some (.bl false) := by
  rw [show neY teqT tkT (.lst (v.map pairD)) (.lst (v.map pairD)) = neD (.lst (v.map pairD)) (.lst (v.map pairD)) by cases v <;> rfl]
  unfold neD
  rw [pd_pairs]
  show (if _ then some (D.bl (!PyData.eqvAll (v.map pairP) (v.map pairP))) else none) = _
  rw [if_pos ⟨sh_pairs v, sh_pairs v⟩, eqv_pairs]
  rfl
theorem eq_pairs (v : List Rat) : eqY teqT tkT (.lst (v.map pairD)) (.lst (v.map pairD)) = some (.bl true) := by
  rw [show eqY teqT tkT (.lst (v.map pairD)) (.lst (v.map pairD)) = eqX (.lst (v.map pairD)) (.lst (v.map pairD)) by cases v <;> rfl]
  refine eqX_deq ?_ rfl
  show deqs 40 _ _ = true
  induction v with
  | nil => rfl
  | cons q v ih =>
    show (deq 40 (pairD q) (pairD q) && deqs 40 (v.map pairD) (v.map pairD)) = true
    rw [ih, Bool.and_true]
    show ((q.num == q.num) && (((q.den : Int) == (q.den : Int)) && true)) = true
    simp
theorem pairs_mk (v : List Rat) : v.map pairD = mk v.length fun k => pairD (co v k) := by
  conv => lhs; rw [← Cv.mk_co v]
  exact Cv.mk_map ..
theorem take_mk {α : Type} {m n : Nat} (f : Nat → α) (h : n ≤ m) : (mk m f).take n = mk n f := by
  apply List.ext_getElem?
  intro k
  by_cases hk : k < n
  · rw [List.getElem?_take_of_lt hk, Cv.mk_get? _ hk, Cv.mk_get? _ (by omega)]
  · rw [List.getElem?_eq_none (by rw [List.length_take, Cv.mk_length]; omega), List.getElem?_eq_none (by rw [Cv.mk_length]; omega)]
theorem enum_mk (n : Nat) (f : Nat → D) : enumAD [.lst (mk n f)] = some (mk n fun i => .tup [.int ((i : Nat) : Int), f i]) := by
  show some (enumD 0 _) = _
  rw [enumD_mk, Cv.mk_length]
  congr 1
  refine Cv.mk_congr fun k hk => ?_
  rw [Nat.zero_add, Cv.mk_getD _ _ hk]
theorem neY_int (b c : Int) : neY teqT tkT (.int b) (.int c) = some (.bl (!decide (b = c))) := neD_int b c
theorem eqY_int (b c : Int) : eqY teqT tkT (.int b) (.int c) = some (.bl (decide (b = c))) := eqX_int b c
theorem pair_zero : pairD 0 = .tup [.int 0, .int 1] := rfl
theorem pair_one : pairD 1 = .tup [.int 1, .int 1] := rfl
theorem szn {n : Nat} (h : n ≤ 1000) : n ≤ szL := Nat.le_trans h (by decide)
theorem len2 (x y : D) : [x, y].length ≤ szL := by show 2 ≤ szL; decide
def Rq (v : List Rat) : Prop := ∀ q ∈ v, Lt 198 q.num ∧ Lt 6 (q.den : Nat)
theorem lt_shortB {x : Int} (h : Lt 198 x) : Short x := by
  unfold Lt at h
  have : (2 : Nat) ^ 198 < 1000000000000000000000000000000000000000000000000000000000000 := by decide
  exact ⟨by omega, by omega⟩
theorem den_ltB {v : List Rat} (h : ∀ q ∈ v, Lt 6 (q.den : Nat)) : Lt (1 + 6 * v.length) (Ln.den v) := by
  induction v with
  | nil => unfold Lt; decide
  | cons q v ih =>
    have h1 := ih fun p hp => h p (List.mem_cons_of_mem _ hp)
    have h2 := h q List.mem_cons_self
    exact (Lt.mul h2 h1).mono (by rw [List.length_cons]; omega)
theorem ev_pairs_of {v : List Rat} (lv : v.length ≤ 1000) (g : G) : m__law_pairs_of [rowD v] g = .ok (.v (.lst (v.map pairD))) g := by
  refine mOf_ok rfl (sl := [.v (rowD v), .un]) ?_
  unfold b__law_pairs_of
  simp only [List.map_cons, List.map_nil, Nat.reduceSub, List.replicate_succ, List.replicate_zero, List.cons_append, List.nil_append, List.replicate]
  exact Ss.ret (Es.frz (co := .lst (v.map pairD)) (Es.compB ratD pairD (Es.items (Es.prpV (d := .tup (v.map ratD)) (Es.var rfl) rfl fun g => by rfl) rfl) rfl (szn lv) fun q _ => ⟨⟨[.v (rowD v), .v (ratD q)], g⟩, ⟨[.v (rowD v), .v (ratD q)], g⟩, rfl, Es.tup (Es.cons (Es.prpV (d := .int q.num) (Es.var rfl) rfl fun g => by rfl) (Es.cons (Es.prpV (d := .int (q.den : Nat)) (Es.var rfl) rfl fun g => by rfl) Es.nil)) (len2 _ _), rfl⟩))
theorem ev_row_mixed {ent : Rat → D} {v : List Rat} (he : ∀ q ∈ v, En (ent q) q) (h0 : 1 ≤ v.length) (hl : v.length ≤ 25) (hr : Rq v) (g : G) : mkC 3 i_Row [.tup (v.map ent), .int 0] g = .ok (.v (rowD v)) g := by
  have := ev_Row (ent := ent) (rv := id) (bs := v) (fun q hq => he q hq) (fun z => by rw [z] at h0; simp at h0) hl (by rw [List.map_id]; exact (den_ltB fun q hq => (hr q hq).2).sz (by omega)) (fun q hq => (hr q hq).1.sz (by decide)) g
  rw [List.map_id] at this
  exact this
theorem ev_rw_made {v : List Rat} (h0 : 1 ≤ v.length) (hl : v.length ≤ 25) (hr : Rq v) (g : G) : m__law_rw_made [.lst (v.map pairD)] g = .ok (.v (rowD v)) g := by
  have hlz : v.length ≤ szL := szn (by omega)
  refine mOf_ok rfl (sl := [.v (.lst (v.map pairD)), .un, .un]) ?_
  unfold b__law_rw_made
  simp only [List.map_cons, List.map_nil, Nat.reduceSub, List.replicate_succ, List.replicate_zero, List.cons_append, List.nil_append, List.replicate]
  refine Ss.ret (Es.callV (ds := [.tup (v.map ratD)]) (Es.cons (Es.blt (ds := [.lst (v.map ratD)]) (Es.cons (Es.frz (co := .lst (v.map ratD)) ?_) Es.nil) rfl) Es.nil) fun g => ev_row_mixed (fun q _ => .r q) h0 hl hr g)
  exact Es.compB pairD ratD (Es.items (Es.var rfl) rfl) rfl hlz fun q hq => ⟨_, _, rfl, Es.callV (Es.cons (Es.var rfl) (Es.cons (Es.var rfl) Es.nil)) (fun g => by
      have := ev_Ratio (lt_shortB (hr q hq).1) (lt_shortB ((hr q hq).2.mono (by decide))) (den_ne q) g
      rw [Ln.num_div_den] at this
      exact this), rfl⟩
open Dx.Ev in
theorem ev_rollB (t : Int × Int × Int) (n : Int) (h : 0 < n) (hn : n.natAbs.log2 < 8000) : ∃ r t', m__law_roll [.dice, .int n] ⟨some t, none⟩ = .ok (.v (.int r)) ⟨some t', none⟩ ∧ 0 ≤ r ∧ r < n := by
  have sh : m__law_roll [.dice, .int n] ⟨some t, none⟩ = (b__law_roll ⟨[.v .dice, .v (.int n), .un, .un, .un], ⟨some t, none⟩⟩).fr := rfl
  have dv : ∀ i : Int, divD (.int i) (.int n) = some (.int (i / n)) := fun i => Dx.Ev.div_ok h (by omega)
  have dv2 : ∀ i : Int, divD (.int i) (.int 131072) = some (.int (i / 131072)) := fun i => Dx.Ev.div_ok (by decide) (by decide +kernel)
  have m1 : ∀ i : Int, modD (.int i) (.int 2305843009213693613) = some (.int (i % 2305843009213693613)) := fun i => Dx.Ev.mod_ok (by decide)
  have m2 : ∀ i : Int, modD (.int i) (.int 2305843009213693669) = some (.int (i % 2305843009213693669)) := fun i => Dx.Ev.mod_ok (by decide)
  rw [sh]
  unfold b__law_roll
  by_cases d : 0 < t.1
  · refine ⟨t.1 % n, (t.1 / n, t.2.1, t.2.2), ?_, Int.emod_nonneg _ (by omega), Int.emod_lt_of_pos _ h⟩
    simp only [sDie, zDie,  LSt.withD, Dx.Ev.gtI, Dx.Ev.int1, d, decide_true, Dx.Ev.mod_ok h, dv, zSeq, sVar, LSt.put, Res.toFl, Fl.seq, sBin, Res.bind, opt, zSet, zRet, zNext, Fl.fr, sC, sTst, blD, zIf, sCons, sNil, sBlt, optF, Option.bind_some, nth3, set3,
      List.getElem?_cons_zero, List.getElem?_cons_succ, List.set_cons_zero, List.set_cons_succ, reduceIte]
  · have ma : ∀ i : Int, mulD (.int 86028157) (.int i) = some (.int (86028157 * i)) := fun i => Dx.Ev.mul_ok (mulOk_bd (Bd.c _) (by decide))
    have mb : ∀ i : Int, mulD (.int 97) (.int i) = some (.int (97 * i)) := fun i => Dx.Ev.mul_ok (mulOk_bd (Bd.c _) (by decide))
    have mc : ∀ i : Int, mulD (.int (i % 2305843009213693613)) (.int (i % 2305843009213693613)) = some (.int ((i % 2305843009213693613) * (i % 2305843009213693613))) := fun i => Dx.Ev.mul_ok (mulOk_bd (Bd.md _ _ (by decide)) (by decide))
    have me : ∀ i : Int, mulD (.int (i % 2305843009213693669)) (.int 7654321) = some (.int ((i % 2305843009213693669) * 7654321)) := fun i => Dx.Ev.mul_ok (mulOk_bd (Bd.md _ _ (by decide)) (by decide))
    refine ⟨(((((t.2.1 + 86028157 * (t.2.2 + 1)) % 2305843009213693613) * ((t.2.1 + 86028157 * (t.2.2 + 1)) % 2305843009213693613) + 97 * (t.2.2 + 1)) % 2305843009213693669 * 7654321 + ((t.2.1 + 86028157 * (t.2.2 + 1)) % 2305843009213693613)) / 131072) % n, (t.1, t.2.1, t.2.2 + 1), ?_, Int.emod_nonneg _ (by omega), Int.emod_lt_of_pos _ h⟩
    simp only [sDie, zDie, nth3, set3, LSt.withD, Dx.Ev.gtI, Dx.Ev.int1, d, decide_false, Dx.Ev.mod_ok h, dv2, m1, m2, ma, mb, mc, me, zSeq, sVar, LSt.put, Res.toFl, Fl.seq, sBin, Res.bind, opt, Dx.Ev.addI, zSet, zRet, zNext, Fl.fr, sC, sTst, blD, zIf, sCons, sNil, sBlt,
      Bool.false_eq_true, List.getElem?_cons_zero, List.getElem?_cons_succ, List.set_cons_zero, List.set_cons_succ, reduceIte]
end K08

namespace K08
open PySem PySem.Spec PyProof.Rows L2 Dx
open Cv (co it mk)
theorem ok_app {a b : Str} (ha : PyData.strOk a = true) (hb : PyData.strOk b = true) : PyData.strOk (a ++ b) = true := by
  unfold PyData.strOk at *
  rw [Str.cps_append, Array.all_append, ha, hb]
  rfl
theorem ok_of (s : String) : PyData.strOk (Str.ofString s) = true := by
  unfold PyData.strOk
  rw [PySem.Str.ofString_eq_toList]
  show (s.toList.map Char.toNat).toArray.all (fun x => decide (x < 0x110000)) = true
  rw [List.all_toArray, List.all_map, List.all_eq_true]
  intro c _
  refine decide_eq_true ?_
  rcases c.valid with h | h
  · exact Nat.lt_trans h (by decide)
  · exact h.2
structure SX (n : Nat) (s : Str) : Prop where
  ok : PyData.strOk s = true
  le : s.length ≤ n
theorem SX.mono {m n : Nat} {s : Str} (h : SX m s) (k : m ≤ n) : SX n s := ⟨h.ok, Nat.le_trans h.le k⟩
theorem SX.app {m n : Nat} {a b : Str} (h : SX m a) (k : SX n b) : SX (m + n) (a ++ b) := ⟨ok_app h.ok k.ok, by rw [PySem.Str.length_append]; exact Nat.add_le_add h.le k.le⟩
abbrev iS (i : Int) : Str := Str.ofString (toString i)
theorem SX.int {i : Int} (h : i.natAbs.log2 < 1920) : SX 1921 (iS i) := ⟨ok_of _, int_text_len_1921 h⟩
theorem eq_str {a b : Str} {m n : Nat} (ha : SX m a) (hb : SX n b) : eqX (.str a) (.str b) = some (.bl (decide (a = b))) := by
  unfold eqX
  rw [show (deq 41 (.str a) (.str b) && !isFlat (.str a)) = false by show (_ && false) = false; rw [Bool.and_false]]
  rw [if_neg (by decide)]
  show (if SeqAt.shaped (.str a) = true ∧ SeqAt.shaped (.str b) = true then some (D.bl (PyData.eqv (.str a) (.str b))) else none) = _
  rw [if_pos ⟨by show (PyData.strOk a && _) = true; rw [ha.ok]; rfl, by show (PyData.strOk b && _) = true; rw [hb.ok]; rfl⟩]
  rfl
theorem ne_strs {a b : Str} {m n : Nat} (ha : SX m a) (hb : SX n b) : neD (.str a) (.str b) = some (.bl (!decide (a = b))) := by
  show (if SeqAt.shaped (.str a) = true ∧ SeqAt.shaped (.str b) = true then some (D.bl (!PyData.eqv (.str a) (.str b))) else none) = _
  rw [if_pos ⟨by show (PyData.strOk a && _) = true; rw [ha.ok]; rfl, by show (PyData.strOk b && _) = true; rw [hb.ok]; rfl⟩]
  rfl
theorem eqY_str {a b : Str} {m n : Nat} (ha : SX m a) (hb : SX n b) : eqY teqT tkT (.str a) (.str b) = some (.bl (decide (a = b))) := eq_str ha hb
theorem neY_str {a b : Str} {m n : Nat} (ha : SX m a) (hb : SX n b) : neY teqT tkT (.str a) (.str b) = some (.bl (!decide (a = b))) := ne_strs ha hb
theorem szL_big : 1000000 ≤ szL := by decide
theorem add_str {a b : Str} {m n : Nat} (ha : SX m a) (hb : SX n b) (h : m + n ≤ 1000000) : addD (.str a) (.str b) = some (.str (a ++ b)) := by
  refine if_pos ?_
  have := ha.le
  have := hb.le
  exact Nat.le_trans (by omega) szL_big
theorem fmt_int {i : Int} (h : i.natAbs.log2 < 1920) : fmtD (.int i) = some (.str (iS i)) := if_pos h
theorem str_int {ts : Nat → Option Fm} {i : Int} (h : i.natAbs.log2 < 1920) : strD ts [.int i] = some (.str (iS i)) := if_pos h
theorem fmt_str {a : Str} {m : Nat} (ha : SX m a) (h : m ≤ 1000000) : fmtD (.str a) = some (.str a) := if_pos (Nat.le_trans (Nat.le_trans ha.le h) szL_big)
theorem len_lit {s : Str} (n : Nat) (h : s.length ≤ n) (k : PyData.strOk s = true) : SX n s := ⟨k, h⟩
section
variable {l : LSt} {f1 f2 f3 : LSt → Res D} {a b c : Str} {k m n : Nat}
theorem Es_join2 (h1 : Es f1 l (.str a) l) (h2 : Es f2 l (.str b) l) (ha : SX k a) (hb : SX m b) (h : k + m ≤ 1000000) : Es (sJoinP [f1, f2] Str.empty) l (.str (a ++ b)) l := by
  have z1 := ha.le
  have z2 := hb.le
  have zz := szL_big
  unfold Es at *
  unfold sJoinP
  rw [h1]
  simp only [Res.bind]
  rw [PySem.Str.empty_append, if_pos (by omega)]
  unfold sJoinP
  rw [h2]
  simp only [Res.bind]
  rw [if_pos (by rw [PySem.Str.length_append]; omega)]
  rfl
theorem Es_join3 (h1 : Es f1 l (.str a) l) (h2 : Es f2 l (.str b) l) (h3 : Es f3 l (.str c) l) (ha : SX k a) (hb : SX m b) (hc : SX n c) (h : k + m + n ≤ 1000000) : Es (sJoinP [f1, f2, f3] Str.empty) l (.str (a ++ b ++ c)) l := by
  have z1 := ha.le
  have z2 := hb.le
  have z3 := hc.le
  have zz := szL_big
  unfold Es at *
  unfold sJoinP
  rw [h1]
  simp only [Res.bind]
  rw [PySem.Str.empty_append, if_pos (by omega)]
  unfold sJoinP
  rw [h2]
  simp only [Res.bind]
  rw [if_pos (by rw [PySem.Str.length_append]; omega)]
  unfold sJoinP
  rw [h3]
  simp only [Res.bind]
  rw [if_pos (by rw [PySem.Str.length_append, PySem.Str.length_append]; omega)]
  rfl
end
def S (x : String) : Str := Str.ofString x
theorem SX.lit (x : String) {n : Nat} (h : (Str.ofString x).length ≤ n := by decide) : SX n (Str.ofString x) := ⟨ok_of x, h⟩
def numS (q : Rat) : Str := if q.den = 1 then iS (q.num.natAbs : Nat) else iS (q.num.natAbs : Nat) ++ Str.ofString "/" ++ iS (q.den : Nat)
def powS (p : Nat) : Str := if p = 1 then Str.ofString "x" else Str.ofString "x^" ++ iS (p : Nat)
def termS (p : Nat) (q : Rat) : Str := if p = 0 then numS q else if numS q = Str.ofString "1" then powS p else numS q ++ Str.ofString "*" ++ powS p
theorem log_lt {x : Int} {e : Nat} (h : Lt e x) (he : e ≤ 1919) (e0 : 0 < e) : x.natAbs.log2 < 1920 := by
  by_cases hx : x.natAbs = 0
  · rw [hx]; decide
  · have := (Nat.log2_lt hx).mpr h
    omega
theorem log_nat {n : Nat} (h : n < 2 ^ 60) : ((n : Nat) : Int).natAbs.log2 < 1920 := log_lt (e := 60) (by unfold Lt; rw [Int.natAbs_natCast]; exact h) (by decide) (by decide)
section
variable {q : Rat} {p : Nat}
theorem abs_log (h : Lt 198 q.num) : ((q.num.natAbs : Nat) : Int).natAbs.log2 < 1920 := log_lt (e := 198) (by unfold Lt at *; rw [Int.natAbs_natCast]; exact h) (by decide) (by decide)
theorem den_log (h : Lt 6 (q.den : Nat)) : ((q.den : Nat) : Int).natAbs.log2 < 1920 := log_lt h (by decide) (by decide)
theorem numS_sx (h1 : Lt 198 q.num) (h2 : Lt 6 (q.den : Nat)) : SX 3843 (numS q) := by
  unfold numS
  split
  · exact (SX.int (abs_log h1)).mono (by decide)
  · exact ((SX.int (abs_log h1)).app (SX.lit "/" (n := 1))).app (SX.int (den_log h2))
theorem powS_sx (hp : p < 2 ^ 60) : SX 1923 (powS p) := by
  unfold powS
  split
  · exact (SX.lit "x" (n := 1)).mono (by decide)
  · exact (SX.lit "x^" (n := 2)).app (SX.int (log_nat hp))
theorem termS_sx (h1 : Lt 198 q.num) (h2 : Lt 6 (q.den : Nat)) (hp : p < 2 ^ 60) : SX 5767 (termS p q) := by
  unfold termS
  split
  · exact (numS_sx h1 h2).mono (by decide)
  · split
    · exact (powS_sx hp).mono (by decide)
    · exact ((numS_sx h1 h2).app (SX.lit "*" (n := 1))).app (powS_sx hp)
theorem eqX_nat (a b : Nat) : eqX (.int (a : Int)) (.int (b : Int)) = some (.bl (decide (a = b))) := by
  rw [eqX_int]
  exact congrArg (fun z => some (D.bl z)) (decide_eq_decide.mpr Int.ofNat_inj)
theorem ev_term_text (h1 : Lt 198 q.num) (h2 : Lt 6 (q.den : Nat)) (hp : p < 2 ^ 60) (g : G) : m_term_text [.int (p : Nat), .int (q.num.natAbs : Nat), .int (q.den : Nat)] g = .ok (.v (.str (termS p q))) g := by
  refine mOf_ok rfl (sl := [.v (.int (p : Nat)), .v (.int (q.num.natAbs : Nat)), .v (.int (q.den : Nat)), .v (.str (numS q)), .v (.str (powS p))]) ?_
  unfold b_term_text
  simp only [List.map_cons, List.map_nil, Nat.reduceSub, List.replicate_succ, List.replicate_zero, List.cons_append, List.nil_append, List.replicate]
  refine Ss.seq (l1 := ⟨[.v (.int (p : Nat)), .v (.int (q.num.natAbs : Nat)), .v (.int (q.den : Nat)), .v (.str (numS q)), .un], g⟩) (Ss.set (sl1 := [.v (.int (p : Nat)), .v (.int (q.num.natAbs : Nat)), .v (.int (q.den : Nat)), .un, .un]) (g2 := g) (d := .str (numS q)) ?_ rfl) (Ss.seq (l1 := ⟨[.v (.int (p : Nat)), .v (.int (q.num.natAbs : Nat)), .v (.int (q.den : Nat)), .v (.str (numS q)), .v (.str (powS p))], g⟩) (Ss.set (sl1 := [.v (.int (p : Nat)), .v (.int (q.num.natAbs : Nat)), .v (.int (q.den : Nat)), .v (.str (numS q)), .un]) (g2 := g) (d := .str (powS p)) ?_ rfl) ?_)
  · unfold numS
    by_cases hd : q.den = 1
    · rw [if_pos hd]
      exact Es.ifT (k := true) (Es.tst (Es.bin (Es.var rfl) Es.c ((eqX_nat _ 1).trans (by rw [decide_eq_true hd])))) rfl (Es.blt (Es.cons (Es.var rfl) Es.nil) (str_int (abs_log h1)))
    · rw [if_neg hd]
      exact Es.ifF (k := false) (Es.tst (Es.bin (Es.var rfl) Es.c ((eqX_nat _ 1).trans (by rw [decide_eq_false hd])))) rfl (Es_join3 (Es.un (Es.var rfl) (fmt_int (abs_log h1))) Es.c (Es.un (Es.var rfl) (fmt_int (den_log h2))) (SX.int (abs_log h1)) (SX.lit "/" (n := 1)) (SX.int (den_log h2)) (by decide))
  · unfold powS
    by_cases hd : p = 1
    · rw [if_pos hd]
      exact Es.ifT (k := true) (Es.tst (Es.bin (Es.var rfl) Es.c ((eqX_nat _ 1).trans (by rw [decide_eq_true hd])))) rfl Es.c
    · rw [if_neg hd]
      exact Es.ifF (k := false) (Es.tst (Es.bin (Es.var rfl) Es.c ((eqX_nat _ 1).trans (by rw [decide_eq_false hd])))) rfl (Es_join2 Es.c (Es.un (Es.var rfl) (fmt_int (log_nat hp))) (SX.lit "x^" (n := 2)) (SX.int (log_nat hp)) (by decide))
  · unfold termS
    by_cases hd : p = 0
    · rw [if_pos hd]
      exact Ss.seqR (Ss.ifT (k := true) (Es.tst (Es.bin (Es.var rfl) Es.c ((eqX_nat _ 0).trans (by rw [decide_eq_true hd])))) rfl (Ss.ret (Es.var rfl)))
    · rw [if_neg hd]
      refine Ss.seq (Ss.ifF (k := false) (Es.tst (Es.bin (Es.var rfl) Es.c ((eqX_nat _ 0).trans (by rw [decide_eq_false hd])))) rfl Ss.next) (Ss.ret ?_)
      have hc := eq_str (numS_sx h1 h2) (SX.lit "1" (n := 1))
      by_cases h3 : numS q = Str.ofString "1"
      · rw [if_pos h3]
        exact Es.ifT (k := true) (Es.tst (Es.bin (Es.var rfl) Es.c (hc.trans (by rw [decide_eq_true h3])))) rfl (Es.var rfl)
      · rw [if_neg h3]
        exact Es.ifF (k := false) (Es.tst (Es.bin (Es.var rfl) Es.c (hc.trans (by rw [decide_eq_false h3])))) rfl (Es_join3 (Es.un (Es.var rfl) (fmt_str (numS_sx h1 h2) (by decide))) Es.c (Es.un (Es.var rfl) (fmt_str (powS_sx hp) (by decide))) (numS_sx h1 h2) (SX.lit "*" (n := 1)) (powS_sx hp) (by decide))
end
end K08

namespace K08
open PySem PySem.Spec PyProof.Rows L2 Dx
open Cv (co it mk)
def stepS (f : Str) (p : Nat) (q : Rat) : Str := if q.num = 0 then f else if f = Str.ofString "" then (if q.num < 0 then Str.ofString "-" else Str.ofString "") ++ termS p q else f ++ (if q.num < 0 then Str.ofString " - " else Str.ofString " + ") ++ termS p q
def txtS (v : List Rat) : Nat → Str
  | 0 => Str.ofString ""
  | k + 1 => stepS (txtS v k) k (co v k)
def fullS (v : List Rat) : Str := if txtS v v.length ≠ Str.ofString "" then txtS v v.length else Str.ofString "0"
def tailS (m : Int) : Str := if m > 0 then Str.ofString " modulo " ++ iS m else Str.ofString ""
def rowS (v : List Rat) (m : Int) : Str := fullS v ++ Str.ofString " to " ++ iS ((v.length : Int) - 1) ++ tailS m
theorem rq_co {v : List Rat} (h : Rq v) (k : Nat) : Lt 198 (co v k).num ∧ Lt 6 ((co v k).den : Nat) := by
  unfold co
  rcases Nat.lt_or_ge k v.length with hk | hk
  · rw [List.getD_eq_getElem?_getD, List.getElem?_eq_getElem hk]
    exact h _ (List.getElem_mem hk)
  · rw [List.getD_eq_getElem?_getD, List.getElem?_eq_none hk]
    exact ⟨by unfold Lt; decide, by unfold Lt; decide⟩
theorem stepS_sx {f : Str} {p n : Nat} {q : Rat} (hf : SX n f) (h1 : Lt 198 q.num) (h2 : Lt 6 (q.den : Nat)) (hp : p < 2 ^ 60) : SX (n + 5770) (stepS f p q) := by
  have ht := termS_sx h1 h2 hp
  unfold stepS
  split
  · exact hf.mono (by omega)
  · split
    · refine SX.mono (m := 1 + 5767) (SX.app ?_ ht) (by omega)
      split
      · exact SX.lit "-"
      · exact SX.lit ""
    · refine SX.mono (m := n + 3 + 5767) (SX.app (SX.app hf ?_) ht) (by omega)
      split
      · exact SX.lit " - "
      · exact SX.lit " + "
theorem txtS_sx {v : List Rat} (h : Rq v) : ∀ k, k < 2 ^ 60 → SX (5770 * k) (txtS v k)
  | 0, _ => SX.lit "" (n := 0)
  | k + 1, hk => by
    have := stepS_sx (p := k) (txtS_sx h k (by omega)) (rq_co h k).1 (rq_co h k).2 (by omega)
    exact this.mono (by omega)
theorem enumT (ts : List Int) : enumAD [.tup (ints' ts)] = some (mk ts.length fun i => .tup [.int ((i : Nat) : Int), .int (it ts i)]) := by
  have e := enum_mk ts.length fun k => D.int (it ts k)
  have e2 : mk ts.length (fun k => D.int (it ts k)) = ints' ts := by
    unfold ints'
    conv => rhs; rw [← Cv.mk_self ts 0]
    rw [Cv.mk_map]
    rfl
  rw [e2] at e
  exact e
theorem one_gcd {t b : Int} (hb : 0 < b) : ∃ G : Int, G = ((Nat.gcd t.natAbs b.natAbs : Nat) : Int) ∧ 0 < G ∧ G ∣ ((t.natAbs : Nat) : Int) ∧ G ∣ b ∧ ((t.natAbs : Nat) : Int) / G = ((((t : Rat) / b).num.natAbs : Nat) : Int) ∧ b / G = (((t : Rat) / b).den : Int) ∧ t = G * ((t : Rat) / b).num := by
  obtain ⟨h1, h2⟩ := Ln.nf_one (t := t) (b := b) (by omega)
  have hs : Ln.sh b [t] = ((Nat.gcd t.natAbs b.natAbs : Nat) : Int) := by rw [sh_sgn, if_neg (by omega)]
  rw [hs] at h1 h2
  have hp : 0 < Nat.gcd t.natAbs b.natAbs := Nat.gcd_pos_of_pos_right _ (by omega)
  have hd : ((Nat.gcd t.natAbs b.natAbs : Nat) : Int) ∣ t := Int.ofNat_dvd_left.mpr (Nat.gcd_dvd_left ..)
  refine ⟨_, rfl, Int.natCast_pos.mpr hp, Int.natCast_dvd_natCast.mpr (Nat.gcd_dvd_left ..), Int.ofNat_dvd_left.mpr (Nat.gcd_dvd_right ..), ?_, h2, ?_⟩
  · rw [← h1, Int.natAbs_ediv_of_dvd hd, Int.natAbs_natCast]
    rfl
  · rw [← h1, Int.mul_ediv_cancel' hd]
theorem top_of (v : List Rat) (k : Nat) : ∃ G : Int, G = ((Nat.gcd (it (Ln.T v) k).natAbs (Ln.B v).natAbs : Nat) : Int) ∧ 0 < G ∧ G ∣ (((it (Ln.T v) k).natAbs : Nat) : Int) ∧ G ∣ Ln.B v ∧ (((it (Ln.T v) k).natAbs : Nat) : Int) / G = (((co v k).num.natAbs : Nat) : Int) ∧ Ln.B v / G = ((co v k).den : Int) ∧
    (it (Ln.T v) k < 0 ↔ (co v k).num < 0) ∧ (it (Ln.T v) k = 0 ↔ (co v k).num = 0) := by
  obtain ⟨G, g0, g1, g2, g3, g4, g5, g6⟩ := one_gcd (t := it (Ln.T v) k) (Ln.B_pos v)
  have e : ((it (Ln.T v) k : Int) : Rat) / (Ln.B v : Rat) = co v k := by
    rw [Cv.it_T v k]
    have := Ln.ne_rat (Int.ne_of_gt (Ln.B_pos v))
    grind
  rw [e] at g4 g5 g6
  refine ⟨G, g0, g1, g2, g3, g4, g5, ?_, ?_⟩
  · constructor
    · intro h
      rcases Int.lt_or_le (co v k).num 0 with z | z
      · exact z
      · have := Int.mul_nonneg (Int.le_of_lt g1) z
        omega
    · intro h
      have := Int.mul_neg_of_pos_of_neg g1 h
      omega
  · constructor
    · intro h
      rw [h] at g6
      rcases Int.mul_eq_zero.mp g6.symm with z | z
      · omega
      · exact z
    · intro h
      rw [g6, h, Int.mul_zero]
section
variable {p q : LSt → Fl} {l l1 : LSt} {ev : EV} {g : G}
def EndS (f : LSt → Fl) (l : LSt) (ev : EV) (g : G) : Prop := ∃ sl, Ss f l (.rt ev ⟨sl, g⟩)
theorem EndS.ret {d : D} {e : LSt → Res D} {sl : List Slot} (h : Es e l d ⟨sl, g⟩) : EndS (zRet e) l (.v d) g := ⟨sl, Ss.ret h⟩
theorem EndS.seq (h1 : Ss p l (.nx l1)) (h2 : EndS q l1 ev g) : EndS (zSeq p q) l ev g := by
  obtain ⟨sl, h⟩ := h2
  exact ⟨sl, Ss.seq h1 h⟩
theorem EndS.forMk {tg : Tgt} {f : LSt → Res (List D)} {n : Nat} {it : Nat → D} (Inv : Nat → LSt → Prop) (h : Es f l (Cv.mk n it) l1) (h0 : Inv 0 l1) (hs : ∀ i l, i < n → Inv i l → ∃ l2 l3, tg (it i) l = some l2 ∧ Ss p l2 (.nx l3) ∧ Inv (i + 1) l3)
    (hk : ∀ l', Inv n l' → EndS q l' ev g) : EndS (zSeq (zForI f tg p) q) l ev g := by
  obtain ⟨l', e1, e2⟩ := Ss.forMk (p := p) (tg := tg) Inv h h0 hs
  exact EndS.seq e1 (hk l' e2)
theorem EndS.m {n k : Nat} {b : LSt → Fl} {ds : List D} {g g' : G} (hl : ds.length = k) (h : EndS b ⟨ds.map .v ++ List.replicate (n - k) .un, g⟩ ev g') : mOf n k b ds g = .ok ev g' := by
  obtain ⟨sl, h⟩ := h
  exact mOf_ok hl h
end
theorem stepS_z {f : Str} {p : Nat} {q : Rat} (h : q.num = 0) : stepS f p q = f := by
  unfold stepS
  rw [if_pos h]
theorem fullS_sx {v : List Rat} (hr : Rq v) (lv : v.length ≤ 25) : SX 145000 (fullS v) := by
  unfold fullS
  split
  · exact (txtS_sx hr v.length (by omega)).mono (by omega)
  · exact SX.lit "0"
theorem tail_sx {m : Int} (hm : 0 ≤ m) (hm2 : m ≤ 10000) : SX 1929 (tailS m) := by
  unfold tailS
  split
  · exact (SX.lit " modulo " (n := 8)).app (SX.int (log_lt (e := 60) (by unfold Lt; omega) (by decide) (by decide)))
  · exact SX.lit ""
theorem gt_int (a b : Int) : gtD (.int a) (.int b) = some (.bl (decide (a > b))) := rfl
theorem len_log {n : Nat} (h : n ≤ 25) : ((n : Int) - 1).natAbs.log2 < 1920 := log_lt (e := 60) (by unfold Lt; omega) (by decide) (by decide)
theorem ev_row_text {v : List Rat} {m : Int} (hr : Rq v) (lv : v.length ≤ 25) (hB : Sz (Ln.B v)) (hm : 0 ≤ m) (hm2 : m ≤ 10000) (g : G) : m_row_text [.tup (ints' (Ln.T v)), .int (Ln.B v), .int m] g = .ok (.v (.str (rowS v m))) g := by
  refine EndS.m rfl ?_
  unfold b_row_text
  simp only [List.map_cons, List.map_nil, Nat.reduceSub, List.replicate_succ, List.replicate_zero, List.cons_append, List.nil_append, List.replicate]
  refine EndS.seq (Ss.set Es.c rfl) ?_
  refine EndS.forMk (n := (Ln.T v).length) (fun k l => ∃ x4 x5 x6 x7 x8, l = ⟨[.v (.tup (ints' (Ln.T v))), .v (.int (Ln.B v)), .v (.int m), .v (.str (txtS v k)), x4, x5, x6, x7, x8, .un], g⟩) (Es.walk (Es.cons (Es.var rfl) Es.nil) (enumT (Ln.T v))) ⟨_, _, _, _, _, rfl⟩ ?_ ?_
  · rintro k l hk ⟨x4, x5, x6, x7, x8, rfl⟩
    rw [Ln.T_length] at hk
    obtain ⟨G, g0, g1, g2, g3, g4, g5, g6, g7⟩ := top_of v k
    generalize it (Ln.T v) k = t at g0 g2 g4 g6 g7
    have hq := rq_co hr k
    have hf := txtS_sx hr k (by omega)
    refine ⟨⟨[.v (.tup (ints' (Ln.T v))), .v (.int (Ln.B v)), .v (.int m), .v (.str (txtS v k)), .v (.int (k : Nat)), .v (.int t), x6, x7, x8, .un], g⟩, ?_⟩
    show ∃ l3, _ ∧ _ ∧ ∃ x4 x5 x6 x7 x8, l3 = LSt.mk [.v (.tup (ints' (Ln.T v))), .v (.int (Ln.B v)), .v (.int m), .v (.str (stepS (txtS v k) k (co v k))), x4, x5, x6, x7, x8, .un] g
    by_cases ht : t = 0
    · rw [stepS_z (g7.mp ht)]
      exact ⟨_, rfl, Ss.ifF (k := false) (Es.tst (Es.bin (Es.var rfl) Es.c (by rw [neD_int, decide_eq_true ht]; rfl))) rfl Ss.next, _, _, _, _, _, rfl⟩
    · have hn : (co v k).num ≠ 0 := fun z => ht (g7.mpr z)
      have hs : Sz G := sz_dvd (Int.ne_of_gt (Ln.B_pos v)) hB g3
      have ea : Es (sIf (sTst (sBin ltD (sVar 5) (sC (.int (0))))) (sC (.str "-")) (sC (.str ""))) ⟨[.v (.tup (ints' (Ln.T v))), .v (.int (Ln.B v)), .v (.int m), .v (.str (txtS v k)), .v (.int (k : Nat)), .v (.int t), .v (.int G), .v (.str (termS k (co v k))), x8, .un], g⟩ (.str (if (co v k).num < 0 then Str.ofString "-" else Str.ofString "")) ⟨[.v (.tup (ints' (Ln.T v))), .v (.int (Ln.B v)), .v (.int m), .v (.str (txtS v k)), .v (.int (k : Nat)), .v (.int t), .v (.int G), .v (.str (termS k (co v k))), x8, .un], g⟩ := by
        by_cases h0 : t < 0
        · rw [if_pos (g6.mp h0)]
          exact Es.ifT (k := true) (Es.tst (Es.bin (Es.var rfl) Es.c (by show some (D.bl (decide (t < 0))) = _; rw [decide_eq_true h0]))) rfl Es.c
        · rw [if_neg fun z => h0 (g6.mpr z)]
          exact Es.ifF (k := false) (Es.tst (Es.bin (Es.var rfl) Es.c (by show some (D.bl (decide (t < 0))) = _; rw [decide_eq_false h0]))) rfl Es.c
      have eb : Es (sIf (sTst (sBin ltD (sVar 5) (sC (.int (0))))) (sC (.str " - ")) (sC (.str " + "))) ⟨[.v (.tup (ints' (Ln.T v))), .v (.int (Ln.B v)), .v (.int m), .v (.str (txtS v k)), .v (.int (k : Nat)), .v (.int t), .v (.int G), .v (.str (termS k (co v k))), x8, .un], g⟩ (.str (if (co v k).num < 0 then Str.ofString " - " else Str.ofString " + ")) ⟨[.v (.tup (ints' (Ln.T v))), .v (.int (Ln.B v)), .v (.int m), .v (.str (txtS v k)), .v (.int (k : Nat)), .v (.int t), .v (.int G), .v (.str (termS k (co v k))), x8, .un], g⟩ := by
        by_cases h0 : t < 0
        · rw [if_pos (g6.mp h0)]
          exact Es.ifT (k := true) (Es.tst (Es.bin (Es.var rfl) Es.c (by show some (D.bl (decide (t < 0))) = _; rw [decide_eq_true h0]))) rfl Es.c
        · rw [if_neg fun z => h0 (g6.mpr z)]
          exact Es.ifF (k := false) (Es.tst (Es.bin (Es.var rfl) Es.c (by show some (D.bl (decide (t < 0))) = _; rw [decide_eq_false h0]))) rfl Es.c
      have sa : ∀ b : Prop, [Decidable b] → SX 3 (if b then Str.ofString "-" else Str.ofString "") := fun b _ => by
        split
        · exact SX.lit "-"
        · exact SX.lit ""
      have sb : ∀ b : Prop, [Decidable b] → SX 3 (if b then Str.ofString " - " else Str.ofString " + ") := fun b _ => by
        split
        · exact SX.lit " - "
        · exact SX.lit " + "
      have st := termS_sx (p := k) hq.1 hq.2 (by omega)
      have hc := eq_str hf (SX.lit "" (n := 0))
      have e6 : gcdD [.int t, .int (Ln.B v)] = some (.int G) := by
        rw [g0]
        rfl
      have e7a : divD (.int ((t.natAbs : Nat) : Int)) (.int G) = some (.int (((co v k).num.natAbs : Nat) : Int)) := by rw [divD_ok (Int.ne_of_gt g1) hs g2, g4]
      have e7b : divD (.int (Ln.B v)) (.int G) = some (.int ((co v k).den : Int)) := by rw [divD_ok (Int.ne_of_gt g1) hs g3, g5]
      by_cases hz : txtS v k = Str.ofString ""
      · refine ⟨⟨[.v (.tup (ints' (Ln.T v))), .v (.int (Ln.B v)), .v (.int m), .v (.str (stepS (txtS v k) k (co v k))), .v (.int (k : Nat)), .v (.int t), .v (.int G), .v (.str (termS k (co v k))), .v (.str (if (co v k).num < 0 then Str.ofString "-" else Str.ofString "")), .un], g⟩, rfl, ?_, _, _, _, _, _, rfl⟩
        refine Ss.ifT (k := true) (Es.tst (Es.bin (Es.var rfl) Es.c (by rw [neD_int, decide_eq_false ht]; rfl))) rfl ?_
        refine Ss.seq (Ss.set (Es.blt (Es.cons (Es.var rfl) (Es.cons (Es.var rfl) Es.nil)) e6) rfl) (Ss.seq (Ss.set (Es.callV (Es.cons (Es.var rfl) (Es.cons (Es.bin (Es.blt (Es.cons (Es.var rfl) Es.nil) (absD_nat t)) (Es.var rfl) e7a) (Es.cons (Es.bin (Es.var rfl) (Es.var rfl) e7b) Es.nil))) (ev_term_text hq.1 hq.2 (by omega))) rfl) (Ss.seq (Ss.set (Es.ifT (k := true) (Es.tst (Es.bin (Es.var rfl) Es.c (hc.trans (by rw [decide_eq_true hz])))) rfl ea) rfl) (Ss.set (Es.bin (Es.bin (Es.var rfl) (Es.var rfl) (add_str hf (sa _) (by omega))) (Es.var rfl) (add_str (hf.app (sa _)) st (by omega))) ?_)))
        unfold stepS
        rw [if_neg hn, if_pos hz, hz]
        rw [show ∀ x : Str, Str.ofString "" ++ x = x from PySem.Str.empty_append]
        rfl
      · refine ⟨⟨[.v (.tup (ints' (Ln.T v))), .v (.int (Ln.B v)), .v (.int m), .v (.str (stepS (txtS v k) k (co v k))), .v (.int (k : Nat)), .v (.int t), .v (.int G), .v (.str (termS k (co v k))), .v (.str (if (co v k).num < 0 then Str.ofString " - " else Str.ofString " + ")), .un], g⟩, rfl, ?_, _, _, _, _, _, rfl⟩
        refine Ss.ifT (k := true) (Es.tst (Es.bin (Es.var rfl) Es.c (by rw [neD_int, decide_eq_false ht]; rfl))) rfl ?_
        refine Ss.seq (Ss.set (Es.blt (Es.cons (Es.var rfl) (Es.cons (Es.var rfl) Es.nil)) e6) rfl) (Ss.seq (Ss.set (Es.callV (Es.cons (Es.var rfl) (Es.cons (Es.bin (Es.blt (Es.cons (Es.var rfl) Es.nil) (absD_nat t)) (Es.var rfl) e7a) (Es.cons (Es.bin (Es.var rfl) (Es.var rfl) e7b) Es.nil))) (ev_term_text hq.1 hq.2 (by omega))) rfl) (Ss.seq (Ss.set (Es.ifF (k := false) (Es.tst (Es.bin (Es.var rfl) Es.c (hc.trans (by rw [decide_eq_false hz])))) rfl eb) rfl) (Ss.set (Es.bin (Es.bin (Es.var rfl) (Es.var rfl) (add_str hf (sb _) (by omega))) (Es.var rfl) (add_str (hf.app (sb _)) st (by omega))) ?_)))
        unfold stepS
        rw [if_neg hn, if_neg hz]
        rfl
  · rintro l ⟨x4, x5, x6, x7, x8, rfl⟩
    rw [Ln.T_length]
    have hf := txtS_sx hr v.length (by omega)
    have hc := ne_strs hf (SX.lit "" (n := 0))
    have e9 : ∀ x4 x5 x6 x7 x8 : Slot, Es (sIf (sTst (sBin neD (sVar 3) (sC (.str "")))) (sVar 3) (sC (.str "0"))) ⟨[.v (.tup (ints' (Ln.T v))), .v (.int (Ln.B v)), .v (.int m), .v (.str (txtS v v.length)), x4, x5, x6, x7, x8, .un], g⟩ (.str (fullS v)) ⟨[.v (.tup (ints' (Ln.T v))), .v (.int (Ln.B v)), .v (.int m), .v (.str (txtS v v.length)), x4, x5, x6, x7, x8, .un], g⟩ := fun x4 x5 x6 x7 x8 => by
      unfold fullS
      by_cases hz : txtS v v.length = Str.ofString ""
      · rw [if_neg (fun z => z hz)]
        exact Es.ifF (k := false) (Es.tst (Es.bin (Es.var rfl) Es.c (hc.trans (by rw [decide_eq_true hz]; rfl)))) rfl Es.c
      · rw [if_pos hz]
        exact Es.ifT (k := true) (Es.tst (Es.bin (Es.var rfl) Es.c (hc.trans (by rw [decide_eq_false hz]; rfl)))) rfl (Es.var rfl)
    have lm : m.natAbs.log2 < 1920 := log_lt (e := 60) (by unfold Lt; omega) (by decide) (by decide)
    have et : ∀ sl : List Slot, sl[2]? = some (.v (.int m)) → Es (sIf (sTst (sBin gtD (sVar 2) (sC (.int (0))))) (sJoinP [(sC (.str " modulo ")), (sUn fmtD (sVar 2))] Str.empty) (sC (.str ""))) ⟨sl, g⟩ (.str (tailS m)) ⟨sl, g⟩ := fun sl h2 => by
      unfold tailS
      by_cases hz : m > 0
      · rw [if_pos hz]
        exact Es.ifT (k := true) (Es.tst (Es.bin (Es.var h2) Es.c ((gt_int m 0).trans (by rw [decide_eq_true hz])))) rfl (Es_join2 Es.c (Es.un (Es.var h2) (fmt_int lm)) (SX.lit " modulo " (n := 8)) (SX.int lm) (by decide))
      · rw [if_neg hz]
        exact Es.ifF (k := false) (Es.tst (Es.bin (Es.var h2) Es.c ((gt_int m 0).trans (by rw [decide_eq_false hz])))) rfl Es.c
    refine EndS.seq (Ss.set (e9 _ _ _ _ _) rfl) (EndS.ret (Es.bin (Es_join3 (Es.un (Es.var rfl) (fmt_str (fullS_sx hr lv) (by decide))) Es.c (Es.un (Es.bin (Es.blt (Es.cons (Es.var rfl) Es.nil) (lenD_ints _)) Es.c rfl) ?_) (fullS_sx hr lv) (SX.lit " to " (n := 4)) (SX.int (len_log lv)) (by decide)) (et _ rfl) (add_str (((fullS_sx hr lv).app (SX.lit " to " (n := 4))).app (SX.int (len_log lv))) (tail_sx hm hm2) (by decide))))
    rw [Ln.T_length]
    exact fmt_int (len_log lv)
theorem powS_ne {p : Nat} : powS p ≠ Str.ofString "" := fun z => by
  have h : (powS p).length = 0 := by rw [z]; rfl
  unfold powS at h
  split at h
  · revert h; decide
  · rw [PySem.Str.length_append] at h
    have : (Str.ofString "x^").length = 2 := by decide
    omega
theorem ev_rw_text {v : List Rat} {m : Int} (hr : Rq v) (lv : v.length ≤ 25) (hm : 0 ≤ m) (hm2 : m ≤ 10000) (g : G) : m__law_rw_text [.lst (v.map pairD), .int m] g = .ok (.v (.str (rowS v m))) g := by
  refine EndS.m rfl ?_
  unfold b__law_rw_text
  simp only [List.map_cons, List.map_nil, Nat.reduceSub, List.replicate_succ, List.replicate_zero, List.cons_append, List.nil_append, List.replicate]
  refine EndS.seq (Ss.set Es.c rfl) ?_
  refine EndS.forMk (n := v.length) (fun k l => ∃ x3 x4 x5 x6, l = ⟨[.v (.lst (v.map pairD)), .v (.int m), .v (.str (txtS v k)), x3, x4, x5, x6], g⟩) (Es.walk (Es.cons (Es.var rfl) Es.nil) (by rw [pairs_mk]; exact enum_mk _ _)) ⟨_, _, _, _, rfl⟩ ?_ ?_
  · rintro k l hk ⟨x3, x4, x5, x6, rfl⟩
    have hq := rq_co hr k
    have hf := txtS_sx hr k (by omega)
    generalize hE : D.lst (v.map pairD) = E
    refine ⟨⟨[.v E, .v (.int m), .v (.str (txtS v k)), .v (.int (k : Nat)), .v (pairD (co v k)), x5, x6], g⟩, ?_⟩
    show ∃ l3, _ ∧ _ ∧ ∃ x3 x4 x5 x6, l3 = LSt.mk [.v E, .v (.int m), .v (.str (stepS (txtS v k) k (co v k))), x3, x4, x5, x6] g
    generalize co v k = q at hq
    generalize txtS v k = f at hf
    have hi : ∀ {sl : List Slot}, sl[4]? = some (.v (pairD q)) → Es (sBin ixD (sVar 4) (sC (.int (0)))) ⟨sl, g⟩ (.int q.num) ⟨sl, g⟩ := fun h => Es.bin (Es.var h) Es.c rfl
    have hj : ∀ {sl : List Slot}, sl[4]? = some (.v (pairD q)) → Es (sBin ixD (sVar 4) (sC (.int (1)))) ⟨sl, g⟩ (.int (q.den : Nat)) ⟨sl, g⟩ := fun h => Es.bin (Es.var h) Es.c rfl
    have lg := abs_log hq.1
    have ld := den_log hq.2
    have e5 : Es (sBin addD (sBlt (strD tstT) (sCons (sBlt absD (sCons (sBin ixD (sVar 4) (sC (.int (0)))) sNil)) sNil)) (sIf (sTst (sBin (neY teqT tkT) (sBin ixD (sVar 4) (sC (.int (1)))) (sC (.int (1))))) (sBin addD (sC (.str "/")) (sBlt (strD tstT) (sCons (sBin ixD (sVar 4) (sC (.int (1)))) sNil))) (sC (.str "")))) ⟨[.v E, .v (.int m), .v (.str f), .v (.int (k : Nat)), .v (pairD q), x5, x6], g⟩ (.str (numS q)) ⟨[.v E, .v (.int m), .v (.str f), .v (.int (k : Nat)), .v (pairD q), x5, x6], g⟩ := by
      unfold numS
      by_cases hd : q.den = 1
      · rw [if_pos hd, show iS (q.num.natAbs : Nat) = iS (q.num.natAbs : Nat) ++ Str.ofString "" from (PySem.Str.append_empty _).symm]
        exact Es.bin (Es.blt (Es.cons (Es.blt (Es.cons (hi rfl) Es.nil) (absD_nat _)) Es.nil) (str_int lg)) (Es.ifF (k := false) (Es.tst (Es.bin (hj rfl) Es.c (by rw [neY_int, decide_eq_true (by omega)]; rfl))) rfl Es.c) (add_str (SX.int lg) (SX.lit "" (n := 0)) (by decide))
      · rw [if_neg hd, PySem.Str.append_assoc]
        exact Es.bin (Es.blt (Es.cons (Es.blt (Es.cons (hi rfl) Es.nil) (absD_nat _)) Es.nil) (str_int lg)) (Es.ifT (k := true) (Es.tst (Es.bin (hj rfl) Es.c (by rw [neY_int, decide_eq_false (by omega)]; rfl))) rfl (Es.bin Es.c (Es.blt (Es.cons (hj rfl) Es.nil) (str_int ld)) (add_str (SX.lit "/" (n := 1)) (SX.int ld) (by decide)))) (add_str (SX.int lg) ((SX.lit "/" (n := 1)).app (SX.int ld)) (by decide))
    have sN := numS_sx hq.1 hq.2
    have sT := termS_sx (p := k) hq.1 hq.2 (by omega)
    obtain ⟨pw, hpw⟩ : ∃ pw : Str, pw = if k = 0 then Str.ofString "" else powS k := ⟨_, rfl⟩
    have sP : SX 1923 pw := by
      rw [hpw]
      split
      · exact SX.lit ""
      · exact powS_sx (by omega)
    refine ⟨⟨[.v E, .v (.int m), .v (.str (stepS f k q)), .v (.int (k : Nat)), .v (pairD q), .v (.str (termS k q)), .v (.str pw)], g⟩, rfl, Ss.seq (Ss.set e5 rfl) (Ss.seq (Ss.set (sl1 := [.v E, .v (.int m), .v (.str f), .v (.int (k : Nat)), .v (pairD q), .v (.str (numS q)), x6]) (g2 := g) (d := .str pw) ?_ rfl) (Ss.seq (l1 := ⟨[.v E, .v (.int m), .v (.str f), .v (.int (k : Nat)), .v (pairD q), .v (.str (termS k q)), .v (.str pw)], g⟩) ?_ ?_)), _, _, _, _, rfl⟩
    · rw [hpw]
      by_cases h0 : k = 0
      · rw [if_pos h0]
        exact Es.ifT (k := true) (Es.tst (Es.bin (Es.var rfl) Es.c (by rw [eqY_int, decide_eq_true (by omega)]))) rfl Es.c
      · rw [if_neg h0]
        refine Es.ifF (k := false) (Es.tst (Es.bin (Es.var rfl) Es.c (by rw [eqY_int, decide_eq_false (by omega)]))) rfl ?_
        unfold powS
        by_cases h1 : k = 1
        · rw [if_pos h1]
          exact Es.ifT (k := true) (Es.tst (Es.bin (Es.var rfl) Es.c (by rw [eqY_int, decide_eq_true (by omega)]))) rfl Es.c
        · rw [if_neg h1]
          exact Es.ifF (k := false) (Es.tst (Es.bin (Es.var rfl) Es.c (by rw [eqY_int, decide_eq_false (by omega)]))) rfl (Es.bin Es.c (Es.blt (Es.cons (Es.var rfl) Es.nil) (str_int (log_nat (by omega)))) (add_str (SX.lit "x^" (n := 2)) (SX.int (log_nat (by omega))) (by decide)))
    · have hc := neY_str sP (SX.lit "" (n := 0))
      by_cases h0 : k = 0
      · have hw : pw = Str.ofString "" := by rw [hpw, if_pos h0]
        have ht : termS k q = numS q := by unfold termS; rw [if_pos h0]
        rw [ht]
        exact Ss.ifF (k := false) (Es.tst (Es.bin (Es.var rfl) Es.c (hc.trans (by rw [decide_eq_true hw]; rfl)))) rfl Ss.next
      · have hw : pw = powS k := by rw [hpw, if_neg h0]
        have hw2 : pw ≠ Str.ofString "" := by rw [hw]; exact powS_ne
        refine Ss.ifT (k := true) (Es.tst (Es.bin (Es.var rfl) Es.c (hc.trans (by rw [decide_eq_false hw2]; rfl)))) rfl (Ss.set (sl1 := [.v E, .v (.int m), .v (.str f), .v (.int (k : Nat)), .v (pairD q), .v (.str (numS q)), .v (.str pw)]) (g2 := g) (d := .str (termS k q)) ?_ rfl)
        have hd := eqY_str sN (SX.lit "1" (n := 1))
        unfold termS
        rw [if_neg h0, ← hw]
        by_cases h1 : numS q = Str.ofString "1"
        · rw [if_pos h1]
          exact Es.ifT (k := true) (Es.tst (Es.bin (Es.var rfl) Es.c (hd.trans (by rw [decide_eq_true h1])))) rfl (Es.var rfl)
        · rw [if_neg h1]
          exact Es.ifF (k := false) (Es.tst (Es.bin (Es.var rfl) Es.c (hd.trans (by rw [decide_eq_false h1])))) rfl (Es.bin (Es.bin (Es.var rfl) Es.c (add_str sN (SX.lit "*" (n := 1)) (by decide))) (Es.var rfl) (add_str (sN.app (SX.lit "*" (n := 1))) sP (by decide)))
    · have hc := eqY_str hf (SX.lit "" (n := 0))
      by_cases hn : q.num = 0
      · rw [stepS_z hn]
        exact Ss.ifF (k := false) (Es.andF (k := false) (Es.tst (Es.bin (hi rfl) Es.c (by rw [neY_int, decide_eq_true hn]; rfl))) rfl) rfl (Ss.ifF (k := false) (Es.tst (Es.bin (hi rfl) Es.c (by rw [neY_int, decide_eq_true hn]; rfl))) rfl Ss.next)
      · have e1 : Es (sTst (sBin (neY teqT tkT) (sBin ixD (sVar 4) (sC (.int (0)))) (sC (.int (0))))) (LSt.mk [.v E, .v (.int m), .v (.str f), .v (.int (k : Nat)), .v (pairD q), .v (.str (termS k q)), .v (.str pw)] g) true (LSt.mk [.v E, .v (.int m), .v (.str f), .v (.int (k : Nat)), .v (pairD q), .v (.str (termS k q)), .v (.str pw)] g) := Es.tst (Es.bin (hi rfl) Es.c (by rw [neY_int, decide_eq_false hn]; rfl))
        have sa : ∀ b : Prop, [Decidable b] → SX 3 (if b then Str.ofString "-" else Str.ofString "") := fun b _ => by
          split
          · exact SX.lit "-"
          · exact SX.lit ""
        have sb : ∀ b : Prop, [Decidable b] → SX 3 (if b then Str.ofString " - " else Str.ofString " + ") := fun b _ => by
          split
          · exact SX.lit " - "
          · exact SX.lit " + "
        have es : ∀ x y : Str, Es (sIf (sTst (sBin ltD (sBin ixD (sVar 4) (sC (.int (0)))) (sC (.int (0))))) (sC (.str x)) (sC (.str y))) (LSt.mk [.v E, .v (.int m), .v (.str f), .v (.int (k : Nat)), .v (pairD q), .v (.str (termS k q)), .v (.str pw)] g) (.str (if q.num < 0 then x else y)) (LSt.mk [.v E, .v (.int m), .v (.str f), .v (.int (k : Nat)), .v (pairD q), .v (.str (termS k q)), .v (.str pw)] g) := fun x y => by
          by_cases h0 : q.num < 0
          · rw [if_pos h0]
            exact Es.ifT (k := true) (Es.tst (Es.bin (hi rfl) Es.c (by show some (D.bl (decide (q.num < 0))) = _; rw [decide_eq_true h0]))) rfl Es.c
          · rw [if_neg h0]
            exact Es.ifF (k := false) (Es.tst (Es.bin (hi rfl) Es.c (by show some (D.bl (decide (q.num < 0))) = _; rw [decide_eq_false h0]))) rfl Es.c
        unfold stepS
        rw [if_neg hn]
        by_cases hz : f = Str.ofString ""
        · rw [if_pos hz]
          exact Ss.ifT (k := true) (Es.andT e1 rfl (Es.tst (Es.bin (Es.var rfl) Es.c (hc.trans (by rw [decide_eq_true hz]))))) rfl (Ss.set (Es.bin (es _ _) (Es.var rfl) (add_str (sa _) sT (by decide))) rfl)
        · rw [if_neg hz]
          exact Ss.ifF (k := false) (Es.andT e1 rfl (Es.tst (Es.bin (Es.var rfl) Es.c (hc.trans (by rw [decide_eq_false hz]))))) rfl (Ss.ifT e1 rfl (Ss.set (Es.bin (Es.bin (Es.var rfl) (es _ _) (add_str hf (sb _) (by omega))) (Es.var rfl) (add_str (hf.app (sb _)) sT (by omega))) rfl))
  · rintro l ⟨x3, x4, x5, x6, rfl⟩
    have hf := txtS_sx hr v.length (by omega)
    have hc := neY_str hf (SX.lit "" (n := 0))
    have lm : m.natAbs.log2 < 1920 := log_lt (e := 60) (by unfold Lt; omega) (by decide) (by decide)
    refine EndS.ret (sl := [.v (.lst (v.map pairD)), .v (.int m), .v (.str (txtS v v.length)), x3, x4, x5, x6]) (Es.bin (l1 := ⟨[.v (.lst (v.map pairD)), .v (.int m), .v (.str (txtS v v.length)), x3, x4, x5, x6], g⟩) (x := .str (fullS v ++ Str.ofString " to " ++ iS ((v.length : Int) - 1))) (y := .str (tailS m)) (Es.bin (l1 := ⟨[.v (.lst (v.map pairD)), .v (.int m), .v (.str (txtS v v.length)), x3, x4, x5, x6], g⟩) (Es.bin (l1 := ⟨[.v (.lst (v.map pairD)), .v (.int m), .v (.str (txtS v v.length)), x3, x4, x5, x6], g⟩) (x := .str (fullS v)) ?_ Es.c (add_str (fullS_sx hr lv) (SX.lit " to " (n := 4)) (by decide))) (Es.blt (Es.cons (Es.bin (Es.blt (Es.cons (Es.var rfl) Es.nil) (lenD_pairs v)) Es.c rfl) Es.nil) (str_int (len_log lv))) (add_str ((fullS_sx hr lv).app (SX.lit " to " (n := 4))) (SX.int (len_log lv)) (by decide))) ?_ (add_str (((fullS_sx hr lv).app (SX.lit " to " (n := 4))).app (SX.int (len_log lv))) (tail_sx hm hm2) (by decide)))
    · unfold fullS
      by_cases hz : txtS v v.length = Str.ofString ""
      · rw [if_neg (fun z => z hz)]
        exact Es.ifF (k := false) (Es.tst (Es.bin (Es.var rfl) Es.c (hc.trans (by rw [decide_eq_true hz]; rfl)))) rfl Es.c
      · rw [if_pos hz]
        exact Es.ifT (k := true) (Es.tst (Es.bin (Es.var rfl) Es.c (hc.trans (by rw [decide_eq_false hz]; rfl)))) rfl (Es.var rfl)
    · unfold tailS
      by_cases hz : m > 0
      · rw [if_pos hz]
        exact Es.ifT (k := true) (Es.tst (Es.bin (Es.var rfl) Es.c ((gt_int m 0).trans (by rw [decide_eq_true hz])))) rfl (Es.bin Es.c (Es.blt (Es.cons (Es.var rfl) Es.nil) (str_int lm)) (add_str (SX.lit " modulo " (n := 8)) (SX.int lm) (by decide)))
      · rw [if_neg hz]
        exact Es.ifF (k := false) (Es.tst (Es.bin (Es.var rfl) Es.c ((gt_int m 0).trans (by rw [decide_eq_false hz])))) rfl Es.c
end K08

namespace K08
open PySem PySem.Spec PyProof.Rows L2 Dx
open Cv (co it mk)
theorem small_terms {t b : Int} (hb : 0 < b) : ((t : Rat) / b).num.natAbs ≤ t.natAbs ∧ ((t : Rat) / b).den ≤ b.natAbs := by
  obtain ⟨G, g0, g1, g2, g3, g4, g5, g6⟩ := one_gcd (t := t) hb
  constructor
  · have e : t.natAbs = G.natAbs * ((t : Rat) / b).num.natAbs := by conv => lhs; rw [g6, Int.natAbs_mul]
    rw [e]
    exact Nat.le_mul_of_pos_left _ (Int.natAbs_pos.mpr (Int.ne_of_gt g1))
  · obtain ⟨c, hc⟩ := g3
    have e5 : b / G = c := by
      rw [hc]
      exact Int.mul_ediv_cancel_left _ (Int.ne_of_gt g1)
    rw [e5] at g5
    have e : b.natAbs = G.natAbs * c.natAbs := by rw [hc, Int.natAbs_mul]
    rw [e, g5, Int.natAbs_natCast]
    exact Nat.le_mul_of_pos_left _ (Int.natAbs_pos.mpr (Int.ne_of_gt g1))
abbrev M59 : Int := 100000000000000000000000000000000000000000000000000000000000
theorem ev_fraction {m : Int} (m1 : 1 ≤ m) (m2 : m ≤ M59) (t : Int × Int × Int) : ∃ (q : Rat) (t' : Int × Int × Int), m__law_rw_fraction [.dice, .int m] ⟨some t, none⟩ = .ok (.v (pairD q)) ⟨some t', none⟩ ∧ Lt 198 q.num ∧ Lt 6 (q.den : Nat) := by
  have big : m.natAbs < 2 ^ 197 := by
    have : (100000000000000000000000000000000000000000000000000000000000 : Nat) < 2 ^ 197 := by decide
    unfold M59 at m2
    omega
  obtain ⟨d, t1, ep, hd⟩ := Dx.Ev.ev_pick t [.int 1, .int 1, .int 1, .int 2, .int 3, .int 4, .int 6, .int 5] (by simp) (by simp)
  obtain ⟨r, t2, er, r0, r1⟩ := ev_rollB t1 (2 * m + 1) (by omega) (by
    have : (2 * m + 1).natAbs.log2 < 199 := (Nat.log2_lt (by omega)).mpr (by omega)
    omega)
  obtain ⟨b, rfl, hb0, hb6⟩ : ∃ b : Int, d = .int b ∧ 0 < b ∧ b ≤ 6 := by
    simp only [List.mem_cons, List.not_mem_nil, or_false] at hd
    rcases hd with rfl | rfl | rfl | rfl | rfl | rfl | rfl | rfl
    · exact ⟨1, rfl, by decide, by decide⟩
    · exact ⟨1, rfl, by decide, by decide⟩
    · exact ⟨1, rfl, by decide, by decide⟩
    · exact ⟨2, rfl, by decide, by decide⟩
    · exact ⟨3, rfl, by decide, by decide⟩
    · exact ⟨4, rfl, by decide, by decide⟩
    · exact ⟨6, rfl, by decide, by decide⟩
    · exact ⟨5, rfl, by decide, by decide⟩
  obtain ⟨s1, s2⟩ := small_terms (t := r - m) hb0
  refine ⟨((r - m : Int) : Rat) / (b : Rat), t2, mOf_ok rfl (sl := [.v .dice, .v (.int m), .v (.int b)]) ?_, ?_, ?_⟩
  · unfold b__law_rw_fraction
    simp only [List.map_cons, List.map_nil, Nat.reduceSub, List.replicate_succ, List.replicate_zero, List.cons_append, List.nil_append, List.replicate]
    refine Ss.seq (Ss.set (Es_callG (g := ⟨some t, none⟩) (ds := [.dice, .lst [.int 1, .int 1, .int 1, .int 2, .int 3, .int 4, .int 6, .int 5]]) (Es.cons (Es.var rfl) (Es.cons (Es.frz (co := .lst [.int 1, .int 1, .int 1, .int 2, .int 3, .int 4, .int 6, .int 5]) (Es.lst (Es.cons Es.c (Es.cons Es.c (Es.cons Es.c (Es.cons Es.c (Es.cons Es.c (Es.cons Es.c (Es.cons Es.c (Es.cons Es.c Es.nil)))))))) (by show 8 ≤ szL; decide))) Es.nil)) (by rw [pick_eq]; exact ep)) rfl) (Ss.ret ?_)
    exact Es_callG (Es.cons (Es.bin (x := .int r) (Es_callG (g := ⟨some t1, none⟩) (ds := [.dice, .int (2 * m + 1)]) (Es.cons (Es.var rfl) (Es.cons (Es.bin (x := .int (2 * m)) (Es.bin Es.c (Es.var rfl) (mulD_ok (Sz.mul (sz_small (by decide)) (Lt.sz (a := 197) big (by decide))))) Es.c rfl) Es.nil)) (by rw [roll_eq]; exact er)) (Es.var rfl) rfl) (Es.cons (Es.var rfl) Es.nil)) (ev_law_ratio (r - m) b (by omega) (sz_small (by omega)) _)
  · unfold Lt
    have : (r - m).natAbs < 2 ^ 198 := by omega
    omega
  · unfold Lt
    rw [Int.natAbs_natCast]
    have : (6 : Nat) < 2 ^ 6 := by decide
    omega
theorem ev_drawn {n : Nat} {m : Int} (hn : n ≤ 900) (m1 : 1 ≤ m) (m2 : m ≤ M59) (t : Int × Int × Int) : ∃ (v : List Rat) (t' : Int × Int × Int), m__law_rw_drawn [.dice, .int (n : Int), .int m] ⟨some t, none⟩ = .ok (.v (.lst (v.map pairD))) ⟨some t', none⟩ ∧ v.length = n + 1 ∧ Rq v := by
  obtain ⟨v, t', e1, e2, e3⟩ := Es.compX (e := sIf (sTst (sBin gtD (sCall m__law_roll (sCons (sVar 0) (sCons (sC (.int (4))) sNil))) (sC (.int (0))))) (sCall m__law_rw_fraction (sCons (sVar 0) (sCons (sVar 2) sNil))) (sTup (sCons (sC (.int (0))) (sCons (sC (.int (1))) sNil)))) (tg := gSet 3) (vs := [3]) (f := sWalk rng1D (sCons (sBin addD (sVar 1) (sC (.int (1)))) sNil)) (l := ⟨[.v .dice, .v (.int n), .v (.int m), .un], ⟨some t, none⟩⟩) (fun q : Rat => Lt 198 q.num ∧ Lt 6 (q.den : Nat)) pairD (fun t => (⟨[.v .dice, .v (.int n), .v (.int m), .un], ⟨some t, none⟩⟩ : LSt)) (t := t)
    (Es.walk (ds := [.int ((n + 1 : Nat) : Int)]) (Es.cons (Es.bin (Es.var rfl) Es.c rfl) Es.nil) (rng1_mk (by omega))) rfl (fun d hd t => by
      obtain ⟨r, t1, er, r0, r1⟩ := es_roll (sl := [.v .dice, .v (.int n), .v (.int m), .v d]) rfl (n := 4) (by decide) (by decide) t
      have et : Es (sTst (sBin gtD (sCall m__law_roll (sCons (sVar 0) (sCons (sC (.int (4))) sNil))) (sC (.int (0))))) ⟨[.v .dice, .v (.int n), .v (.int m), .v d], ⟨some t, none⟩⟩ (decide (r > 0)) ⟨[.v .dice, .v (.int n), .v (.int m), .v d], ⟨some t1, none⟩⟩ := Es.tst (Es.bin er Es.c rfl)
      by_cases hr : r > 0
      · obtain ⟨q, t2, eq, hq⟩ := ev_fraction m1 m2 t1
        exact ⟨q, t2, ⟨[.v .dice, .v (.int n), .v (.int m), .v d], ⟨some t, none⟩⟩, ⟨[.v .dice, .v (.int n), .v (.int m), .v d], ⟨some t2, none⟩⟩, rfl, Es.ifT et (decide_eq_true hr) (Es_callG (g := ⟨some t1, none⟩) (Es.cons (Es.var rfl) (Es.cons (Es.var rfl) Es.nil)) eq), rfl, hq⟩
      · exact ⟨0, t1, ⟨[.v .dice, .v (.int n), .v (.int m), .v d], ⟨some t, none⟩⟩, ⟨[.v .dice, .v (.int n), .v (.int m), .v d], ⟨some t1, none⟩⟩, rfl, Es.ifF et (decide_eq_false hr) (Es.tup (Es.cons Es.c (Es.cons Es.c Es.nil)) (len2 _ _)), rfl, by unfold Lt; decide, by unfold Lt; decide⟩) (by rw [Cv.mk_length]; exact szn (by omega))
  rw [Cv.mk_length] at e2
  refine ⟨v, t', mOf_ok rfl (sl := [.v .dice, .v (.int n), .v (.int m), .un]) ?_, e2, e3⟩
  unfold b__law_rw_drawn
  simp only [List.map_cons, List.map_nil, Nat.reduceSub, List.replicate_succ, List.replicate_zero, List.cons_append, List.nil_append, List.replicate]
  exact Ss.ret (Es.frz (co := .lst (v.map pairD)) e1)
theorem pds_ints : ∀ ts : List Int, D.pds (ints' ts) = some (ts.map PyData.int)
  | [] => rfl
  | t :: ts => by
    show (match (D.int t).pd, D.pds (ints' ts) with
      | some x, some xs => some (x :: xs)
      | _, _ => none) = _
    rw [pds_ints ts]
    rfl
theorem lay_ints : ∀ ts : List Int, PyData.canLayAll0 (ts.map PyData.int) = true
  | [] => rfl
  | t :: ts => by
    show (true && PyData.canLayAll0 (ts.map PyData.int)) = true
    rw [lay_ints ts]
    rfl
theorem dep_ints : ∀ ts : List Int, PyData.depthAll (ts.map PyData.int) ≤ 1
  | [] => Nat.zero_le _
  | t :: ts => by
    show max (PyData.depth (.int t)) (PyData.depthAll (ts.map PyData.int)) ≤ 1
    have := dep_ints ts
    have : PyData.depth (.int t) = 0 := rfl
    omega
theorem eqv_ints : ∀ ts us : List Int, PyData.eqvAll (ts.map PyData.int) (us.map PyData.int) = decide (ts = us)
  | [], [] => rfl
  | [], _ :: _ => rfl
  | _ :: _, [] => rfl
  | t :: ts, u :: us => by
    show ((t == u) && PyData.eqvAll (ts.map PyData.int) (us.map PyData.int)) = _
    rw [eqv_ints ts us]
    by_cases h : t = u <;> by_cases k : ts = us <;> simp [h, k]
theorem sh_of {ps : List PyData} (h1 : PyData.canLayAll0 ps = true) (h2 : PyData.depthAll ps ≤ 60) : SeqAt.shaped (.list ps) = true ∧ SeqAt.shaped (.tuple ps) = true := by
  have d1 : PyData.depth (.list ps) ≤ 64 := by
    show PyData.depthAll ps + 1 ≤ 64
    omega
  have d2 : PyData.depth (.tuple ps) ≤ 64 := by
    show PyData.depthAll ps + 1 ≤ 64
    omega
  constructor
  · unfold SeqAt.shaped
    rw [show PyData.canLay0 (.list ps) = true from h1, decide_eq_true d1]
    rfl
  · unfold SeqAt.shaped
    rw [show PyData.canLay0 (.tuple ps) = true from h1, decide_eq_true d2]
    rfl
theorem sh_ints (ts : List Int) : SeqAt.shaped (.list (ts.map PyData.int)) = true ∧ SeqAt.shaped (.tuple (ts.map PyData.int)) = true := sh_of (lay_ints ts) (Nat.le_trans (dep_ints ts) (by decide))
theorem pd_lints (ts : List Int) : (D.lst (ints' ts)).pd = some (.list (ts.map PyData.int)) := by
  show (D.pds (ints' ts)).map PyData.list = _
  rw [pds_ints]
  rfl
theorem pd_tints (ts : List Int) : (D.tup (ints' ts)).pd = some (.tuple (ts.map PyData.int)) := by
  show (D.pds (ints' ts)).map PyData.tuple = _
  rw [pds_ints]
  rfl
theorem ne_lints (ts us : List Int) : neD (.lst (ints' ts)) (.lst (ints' us)) = some (.bl (!decide (ts = us))) := by
  unfold neD
  rw [pd_lints, pd_lints]
  show (if _ then some (D.bl (!PyData.eqvAll (ts.map PyData.int) (us.map PyData.int))) else none) = _
  rw [if_pos ⟨(sh_ints ts).1, (sh_ints us).1⟩, eqv_ints]
theorem ne_tints (ts us : List Int) : neD (.tup (ints' ts)) (.tup (ints' us)) = some (.bl (!decide (ts = us))) := by
  unfold neD
  rw [pd_tints, pd_tints]
  show (if _ then some (D.bl (!PyData.eqvAll (ts.map PyData.int) (us.map PyData.int))) else none) = _
  rw [if_pos ⟨(sh_ints ts).2, (sh_ints us).2⟩, eqv_ints]
theorem eqD_tints (ts us : List Int) : eqD (.tup (ints' ts)) (.tup (ints' us)) = some (.bl (decide (ts = us))) := by
  unfold eqD
  rw [pd_tints, pd_tints]
  show (if _ then some (D.bl (PyData.eqvAll (ts.map PyData.int) (us.map PyData.int))) else none) = _
  rw [if_pos ⟨(sh_ints ts).2, (sh_ints us).2⟩, eqv_ints]
theorem deqs_int_eq : ∀ (n : Nat) (ts us : List Int), deqs n (ints' ts) (ints' us) = true → ts = us
  | _, [], [], _ => rfl
  | n, [], _ :: _, h => by
    unfold ints' deqs at h
    cases h
  | n, _ :: _, [], h => by
    unfold ints' deqs at h
    cases h
  | n, t :: ts, u :: us, h => by
    have h : (deq n (.int t) (.int u) && deqs n (ints' ts) (ints' us)) = true := h
    obtain ⟨h1, h2⟩ := Bool.and_eq_true_iff.mp h
    have h3 : (t == u) = true := by cases n <;> exact h1
    rw [beq_iff_eq.mp h3, deqs_int_eq n ts us h2]
theorem eqX_tints {ts us : List Int} : eqX (.tup (ints' ts)) (.tup (ints' us)) = some (.bl (decide (ts = us))) := by
  by_cases h : ts = us
  · rw [h, eqX_tups, decide_eq_true rfl]
  · unfold eqX
    split
    · rename_i z
      exfalso
      have z1 : deqs 40 (ints' ts) (ints' us) = true := (Bool.and_eq_true_iff.mp z).1
      exact h (deqs_int_eq 40 ts us z1)
    · exact eqD_tints ts us
theorem neY_lints (ts us : List Int) : neY teqT tkT (.lst (ints' ts)) (.lst (ints' us)) = some (.bl (!decide (ts = us))) := by
  rw [show neY teqT tkT (.lst (ints' ts)) (.lst (ints' us)) = neD (.lst (ints' ts)) (.lst (ints' us)) by cases ts <;> rfl, ne_lints]
theorem neY_tints (ts us : List Int) : neY teqT tkT (.tup (ints' ts)) (.tup (ints' us)) = some (.bl (!decide (ts = us))) := ne_tints ts us
theorem eq_no_pairs (ps : List Rat) : eqY teqT tkT (.lst (ps.map pairD)) (.lst []) = some (.bl (decide (ps = []))) := by
  cases ps with
  | nil => rfl
  | cons q ps =>
    show eqX (.lst (pairD q :: ps.map pairD)) (.lst []) = _
    unfold eqX
    rw [show deq 41 (.lst (pairD q :: ps.map pairD)) (.lst []) = false from rfl]
    show eqD (.lst ((q :: ps).map pairD)) (.lst []) = _
    unfold eqD
    rw [pd_pairs]
    show (if SeqAt.shaped (.list ((q :: ps).map pairP)) = true ∧ SeqAt.shaped (.list []) = true then some (D.bl false) else none) = _
    rw [if_pos ⟨sh_pairs _, by rfl⟩]
    rfl
theorem den_one : ∀ {v : List Rat}, (∀ q ∈ v, q.den = 1) → Ln.den v = 1
  | [], _ => rfl
  | q :: v, h => by
    have := den_one (v := v) fun p hp => h p (List.mem_cons_of_mem _ hp)
    show (q.den : Int) * Ln.den v = 1
    rw [this, h q List.mem_cons_self]
    rfl
theorem B_one {v : List Rat} : Ln.B v = 1 ↔ ∀ q ∈ v, q.den = 1 := by
  constructor
  · intro h q hq
    obtain ⟨k, hk, rfl⟩ := List.getElem_of_mem hq
    have e := Cv.it_T v k
    rw [h] at e
    have e2 : co v k = v[k] := by
      unfold co
      rw [List.getD_eq_getElem?_getD, List.getElem?_eq_getElem hk]
      rfl
    rw [e2, show ((1 : Int) : Rat) = 1 from rfl, Rat.one_mul] at e
    rw [← e, Rat.den_intCast]
  · intro h
    have h1 := Ln.B_pos v
    have h2 := B_le v
    rw [den_one h] at h2
    omega
theorem T_num {v : List Rat} (h : Ln.B v = 1) : Ln.T v = v.map Rat.num := by
  have e : mk (Ln.T v).length (it (Ln.T v)) = Ln.T v := Cv.mk_self (Ln.T v) 0
  have e2 : mk v.length (co v) = v := Cv.mk_co v
  conv => lhs; rw [← e]
  conv => rhs; rw [← e2]
  rw [Cv.mk_map, Ln.T_length]
  refine Cv.mk_congr fun k hk => ?_
  have := Cv.it_T v k
  rw [h, show ((1 : Int) : Rat) = 1 from rfl, Rat.one_mul] at this
  rw [← this, Rat.num_intCast]
end K08

namespace K08
open PySem PySem.Spec PyProof.Rows L2 Dx
open Cv (co it mk)
def rowM (m : Int) (ts : List Int) : D := .ins 3 [.int 1, .tup (ints' ts), .int m, ordD ts, .tup (ints' ts)]
def md (m : Int) (ts : List Int) : List Int := ts.map (· % m)
theorem ev_line_ofM {q : D} {ts : List Int} {b m : Int} (hq : q = .lst (ints' ts) ∨ q = .tup (ints' ts)) (hl : ts.length ≤ 1000) (hm : 0 < m) (g : G) : m_line_of [q, .int b, .int m] g = .ok (.v (.tup [.lst (ints' (md m ts)), .int 1])) g := by
  have hlz : ts.length ≤ szL := Nat.le_trans hl (by decide)
  have hqs : seqD q = some (ts.map D.int) := by rcases hq with rfl | rfl <;> rfl
  refine mOf_ok rfl (sl := [.v q, .v (.int b), .v (.int m), .un, .un]) ?_
  unfold b_line_of
  simp only [List.map_cons, List.map_nil, Nat.reduceSub, List.replicate_succ, List.replicate_zero, List.cons_append, List.nil_append, List.replicate]
  refine Ss.seqR (Ss.ifT (Es.tst (Es.bin (Es.var rfl) Es.c rfl)) (decide_eq_true hm) (Ss.ret (Es.tup (Es.cons (Es.frz (co := .lst (ints' (md m ts))) ?_) (Es.cons Es.c Es.nil)) (by show 2 ≤ szL; decide))))
  unfold ints' md
  rw [List.map_map]
  exact Es.compB D.int (fun t => D.int (t % m)) (Es.items (Es.var rfl) hqs) rfl hlz fun t ht => ⟨_, _, rfl, Es.bin (Es.var rfl) (Es.var rfl) (modD_pos hm), rfl⟩
theorem ev_RowM_of {d q : D} {ts : List Int} {m : Int} (hq : q = .tup [.lst (ints' ts), .int 1]) (hm : 0 < m) (hl : ∀ g, m_line_told [d, .int m] g = .ok (.v q) g) (g : G) : mkC 3 i_Row [d, .int m] g = .ok (.v (rowM m ts)) g := by
  subst hq
  refine mk_ok (f := some (.int 1)) (fs := [some (.tup (ints' ts)), some (.int m), some (ordD ts), some (.tup (ints' ts))]) ?_ rfl
  refine mOfI_nx rfl (sl := [.slf, .v d, .v (.int m), .v (.tup [.lst (ints' ts), .int 1]), .v (.tup (ints' ts)), .v (.int 1), .un]) ?_
  unfold b_Row_init
  simp only [List.map_cons, List.map_nil, Nat.reduceSub, List.replicate_succ, List.replicate_zero, List.cons_append, List.nil_append, List.replicate]
  refine Ss.seq (Ss.set (Es.callV (Es.cons (Es.var rfl) (Es.cons (Es.var rfl) Es.nil)) hl) (by simp only [List.set_cons_zero, List.set_cons_succ] <;> rfl)) ?_
  refine Ss.seq (Ss.asg (d := .tup [.tup (ints' ts), .int 1]) (l2 := ⟨[.slf, .v d, .v (.int m), .v (.tup [.lst (ints' ts), .int 1]), .v (.tup (ints' ts)), .v (.int 1), .un], _⟩) (Es.tup (Es.cons (Es.blt (Es.cons (Es.bin (Es.var rfl) Es.c rfl) Es.nil) rfl) (Es.cons (Es.bin (Es.var rfl) Es.c rfl) Es.nil)) (by show 2 ≤ szL; decide)) rfl) ?_
  refine Ss.seq (Ss.self (fs2 := [none, none, none, none, some (.tup (ints' ts))]) (Es.var rfl) rfl rfl rfl) ?_
  refine Ss.seq (Ss.self (fs2 := [some (.int 1), none, none, none, some (.tup (ints' ts))]) (Es.var rfl) rfl rfl rfl) ?_
  refine Ss.seq (Ss.self (fs2 := [some (.int 1), none, some (.int m), none, some (.tup (ints' ts))]) (Es.var rfl) rfl rfl rfl) ?_
  refine Ss.seq (Ss.self (fs2 := [some (.int 1), none, some (.int m), some (ordD ts), some (.tup (ints' ts))]) (Es.un (Es.var rfl) (nextD_ints _)) rfl rfl rfl) ?_
  exact Ss.self (d := .tup (ints' ts)) (fs := [some (.int 1), none, some (.int m), some (ordD ts), some (.tup (ints' ts))]) (n := 3) (Es.ifT (Es.tst (Es.bin (Es.var rfl) Es.c rfl)) (decide_eq_true hm) (Es.var rfl)) rfl rfl rfl
theorem ev_require_modulus {m : Int} (h : 2 ≤ m) (h2 : m ≤ 10000) (g : G) : m_require_modulus [.int m] g = .ok (.v .non) g := by
  have hs : Short m := ⟨by omega, by omega⟩
  refine mOf_nx rfl (sl := [.v (.int m)]) ?_
  unfold b_require_modulus
  simp only [List.map_cons, List.map_nil, Nat.reduceSub, List.replicate_succ, List.replicate_zero, List.cons_append, List.nil_append, List.replicate]
  exact Ss.ifF (k := false) (Es.orF (k := false) (Es.nt (k := true) (Es.tru (x := .bl true) (Es.callV (Es.cons (Es.var rfl) Es.nil) (ev_integer hs)) rfl)) rfl (Es.orF (Es.tst (Es.bin (Es.var rfl) Es.c rfl)) (decide_eq_false (by omega)) (Es.orF (Es.tst (Es.bin (Es.var rfl) Es.c (eqX_int _ _))) (decide_eq_false (by omega)) (Es.tst (k := false) (Es.bin (z := .bl false) (Es.var rfl) Es.c (congrArg (fun b => some (D.bl b)) (decide_eq_false (p := m > 10000) (by omega)))))))) rfl Ss.next
theorem ev_is_number_ofM {m x : Int} (h : Short x) (g : G) : m_is_number_of [.int m, .int x] g = .ok (.v (.bl true)) g := by
  refine mOf_ok rfl (sl := [.v (.int m), .v (.int x)]) ?_
  unfold b_is_number_of
  simp only [List.map_cons, List.map_nil, Nat.reduceSub, List.replicate_succ, List.replicate_zero, List.cons_append, List.nil_append, List.replicate]
  exact Ss.ret (Es.orVT (Es.callV (Es.cons (Es.var rfl) Es.nil) (ev_integer h)) rfl)

theorem ev_line_toldM {ts : List Int} {m : Int} (he : ∀ t ∈ ts, Short t) (h0 : ts ≠ []) (hl : ts.length ≤ 25) (hm : 2 ≤ m) (hm2 : m ≤ 10000) (g : G) : m_line_told [.tup (ints' ts), .int m] g = .ok (.v (.tup [.lst (ints' (md m ts)), .int 1])) g := by
  have hlz : ts.length ≤ szL := Nat.le_trans hl (by decide)
  have hpos : 1 ≤ ts.length := List.length_pos_iff.mpr h0
  refine mOf_ok rfl (sl := [.v (.tup (ints' ts)), .v (.int m), .un]) ?_
  unfold b_line_told
  simp only [List.map_cons, List.map_nil, Nat.reduceSub, List.replicate_succ, List.replicate_zero, List.cons_append, List.nil_append, List.replicate]
  have e1 : Es (sTru (sUn (isoD tj_Made) (sVar 0))) ⟨[.v (.tup (ints' ts)), .v (.int m), .un], g⟩ false ⟨[.v (.tup (ints' ts)), .v (.int m), .un], g⟩ := Es.tru (Es.un (Es.var rfl) rfl) rfl
  have e2 : Es (sNot (sTru (sUn (isiK tkT 3) (sVar 0)))) ⟨[.v (.tup (ints' ts)), .v (.int m), .un], g⟩ false ⟨[.v (.tup (ints' ts)), .v (.int m), .un], g⟩ := Es.nt (k := true) (Es.tru (x := .bl true) (Es.un (Es.var rfl) rfl) rfl)
  have e3 : Es (sNot (sTst (sChain leD leD (sC (.int (1))) (sBlt lenD (sCons (sVar 0) sNil)) (sBin addD (sC (.int (24))) (sC (.int (1))))))) ⟨[.v (.tup (ints' ts)), .v (.int m), .un], g⟩ false ⟨[.v (.tup (ints' ts)), .v (.int m), .un], g⟩ :=
    Es.nt (k := true) (Es.tst (Es.chain Es.c (Es.blt (Es.cons (Es.var rfl) Es.nil) (lenD_ints ts)) (congrArg (fun b => some (D.bl b)) (decide_eq_true (by omega))) (Es.bin Es.c Es.c rfl) (congrArg (fun b => some (D.bl b)) (decide_eq_true (by omega)))))
  have al : ∀ {mm : Fm} {f : LSt → Res (List D)}, (∀ b ∈ ts, Es (sCall mm f) ⟨[.v (.tup (ints' ts)), .v (.int m), .v (.int b)], g⟩ (.bl true) ⟨[.v (.tup (ints' ts)), .v (.int m), .v (.int b)], g⟩) →
      Es (sNot (sTru (sBlt allD (sCons (sFrz (sComp (sItems (sVar 0)) (gSet 2) sYes (sCall mm f) [2])) sNil)))) ⟨[.v (.tup (ints' ts)), .v (.int m), .un], g⟩ false ⟨[.v (.tup (ints' ts)), .v (.int m), .un], g⟩ := fun h =>
    Es.nt (k := true) (Es.tru (x := .bl true) (Es.blt (Es.cons (Es.frz (co := .lst (ts.map fun _ => D.bl true)) (Es.compB D.int (fun _ => D.bl true) (Es.items (Es.var rfl) rfl) rfl hlz fun b hb => ⟨_, _, rfl, h b hb, rfl⟩)) Es.nil) (all_true ts)) rfl)
  refine Ss.seq (Ss.ifF e1 rfl Ss.next) (Ss.seq (Ss.ifF (Es.orF e2 rfl e3) rfl Ss.next) (Ss.seq (Ss.ifF (al fun b hb => Es.callV (Es.cons (Es.var rfl) Es.nil) (ev_is_number (.i b (he b hb)))) rfl Ss.next) (Ss.seq (Ss.drop (Es.callV (Es.cons (Es.var rfl) Es.nil) (ev_require_modulus hm hm2)))
    (Ss.seq (Ss.ifF (al fun b hb => Es.callV (Es.cons (Es.var rfl) (Es.cons (Es.var rfl) Es.nil)) (ev_is_number_ofM (he b hb))) rfl Ss.next) (Ss.seqR (Ss.ifT (Es.tst (Es.bin (Es.var rfl) Es.c rfl)) (decide_eq_true (by omega)) (Ss.ret ?_)))))))
  exact Es.callV (ds := [.lst (ints' ts), .int 1, .int m]) (Es.cons (Es.frz (co := .lst (ints' ts)) (Es.lstOfT (Es.var rfl))) (Es.cons Es.c (Es.cons (Es.var rfl) Es.nil))) (ev_line_ofM (.inl rfl) (by omega) (by omega))
theorem ev_RowM {ts : List Int} {m : Int} (he : ∀ t ∈ ts, Short t) (h0 : ts ≠ []) (hl : ts.length ≤ 25) (hm : 2 ≤ m) (hm2 : m ≤ 10000) (g : G) : mkC 3 i_Row [.tup (ints' ts), .int m] g = .ok (.v (rowM m (md m ts))) g :=
  ev_RowM_of rfl (by omega) (ev_line_toldM he h0 hl hm hm2) g
def robj (B : Int) (es : List D) (m : Int) (o : D) (ts : List Int) : D := .ins 3 [.int B, .tup es, .int m, o, .tup (ints' ts)]
theorem rowD_eq (v : List Rat) : rowD v = robj (Ln.B v) (v.map ratD) 0 (ordD (Ln.T v)) (Ln.T v) := rfl
theorem rowM_eq (m : Int) (ts : List Int) : rowM m ts = robj 1 (ints' ts) m (ordD ts) ts := rfl
section
variable {B m : Int} {es : List D} {o : D} {ts : List Int}
theorem ev_degree (g : G) : m_Row_degree [robj B es m o ts] g = .ok (.v (.int ((ts.length : Int) - 1))) g := by
  refine mOf_ok rfl (sl := [.v (robj B es m o ts)]) ?_
  unfold b_Row_degree
  exact Ss.ret (Es.bin (Es.blt (Es.cons (Es.attr (Es.var rfl) rfl rfl) Es.nil) (lenD_ints ts)) Es.c rfl)
theorem ev_len (g : G) : m_Row___len__ [robj B es m o ts] g = .ok (.v (.int (ts.length : Nat))) g := by
  refine mOf_ok rfl (sl := [.v (robj B es m o ts)]) ?_
  unfold b_Row___len__
  exact Ss.ret (Es.blt (Es.cons (Es.attr (Es.var rfl) rfl rfl) Es.nil) (lenD_ints ts))
theorem ev_whole_is (g : G) : m_Row_is_whole [robj B es m o ts] g = .ok (.v (.bl (decide (m = 0) && decide (B = 1)))) g := by
  refine mOf_ok rfl (sl := [.v (robj B es m o ts)]) ?_
  unfold b_Row_is_whole
  refine Ss.ret ?_
  have e1 : Es (sBin eqX (sAttr ta_own_modulus (sVar 0)) (sC (.int 0))) ⟨[.v (robj B es m o ts)], g⟩ (.bl (decide (m = 0))) ⟨[.v (robj B es m o ts)], g⟩ := Es.bin (Es.attr (Es.var rfl) rfl rfl) Es.c (eqX_int _ _)
  by_cases h : m = 0
  · rw [decide_eq_true h, Bool.true_and]
    exact Es.andVT e1 (decide_eq_true h) (Es.bin (Es.attr (Es.var rfl) rfl rfl) Es.c (eqX_int _ _))
  · rw [decide_eq_false h, Bool.false_and]
    exact Es.andVF e1 (decide_eq_false h)
theorem ev_whole_ok (h : B = 1) (g : G) : m_Row_whole [robj B es m o ts] g = .ok (.v (.tup (ints' ts))) g := by
  subst h
  rfl
theorem ev_whole_no (h : B ≠ 1) (g : G) : m_Row_whole [robj B es m o ts] g = .ex ⟨8, []⟩ g := by
  have e : neD (.int B) (.int 1) = some (.bl true) := by rw [neD_int, decide_eq_false h]; rfl
  unfold m_Row_whole mOf
  show (b_Row_whole ⟨[.v (robj B es m o ts)], g⟩).fr = _
  unfold b_Row_whole
  have e2 : Es (sTst (sBin neD (sAttr ta_own_bottom (sVar 0)) (sC (.int (1))))) ⟨[.v (robj B es m o ts)], g⟩ true ⟨[.v (robj B es m o ts)], g⟩ := Es.tst (Es.bin (Es.attr (Es.var rfl) rfl rfl) Es.c e)
  unfold Es at e2
  simp only [zSeq, zIf, e2, Res.toFl]
  rfl
theorem ev_require_count {a b : Int} {i : Nat} (h : (i : Int) < 2 ^ 60) (h1 : a ≤ i) (h2 : (i : Int) ≤ b) (g : G) : m_require_count [.int (i : Int), .int a, .int b] g = .ok (.v .non) g := by
  refine mOf_nx rfl (sl := [.v (.int (i : Int)), .v (.int a), .v (.int b)]) ?_
  unfold b_require_count
  refine Ss.ifF (k := false) (Es.orF (k := false) (Es.nt (k := true) (Es.tru (x := .bl true) (Es.callV (Es.cons (Es.var rfl) Es.nil) (ev_integer (short_nat (by omega)))) rfl)) rfl (Es.nt (k := true) (Es.tst (Es.chain (Es.var rfl) (Es.var rfl) (congrArg (fun b => some (D.bl b)) (decide_eq_true h1)) (Es.var rfl) (congrArg (fun b => some (D.bl b)) (decide_eq_true h2)))))) rfl Ss.next
theorem ev_at {i : Nat} {d : D} (hl : es.length = ts.length) (hz : ts.length ≤ 25) (hi : i < ts.length) (hd : es[i]? = some d) (g : G) : m_Row_at [robj B es m o ts, .int (i : Int)] g = .ok (.v d) g := by
  refine mOf_ok rfl (sl := [.v (robj B es m o ts), .v (.int (i : Int))]) ?_
  unfold b_Row_at
  refine Ss.seq (Ss.drop (Es.callV (Es.cons (Es.var rfl) (Es.cons Es.c (Es.cons (Es.bin (Es.blt (Es.cons (Es.attr (Es.var rfl) rfl rfl) Es.nil) (lenD_ints ts)) Es.c rfl) Es.nil))) (ev_require_count (by omega) (by omega) (by omega)))) (Ss.ret (Es.bin (Es.attr (Es.var rfl) rfl rfl) (Es.var rfl) ?_))
  show atD es (i : Int) = _
  unfold atD
  rw [if_pos (Int.natCast_nonneg i), Int.toNat_natCast, hd]
theorem list_of (hz : ts.length ≤ 25) : listT titT tlnT [robj B es m o ts] = some (.lst es) := by
  have e : pureD m_Row___len__ [robj B es m o ts] = some (.int (ts.length : Nat)) := by
    unfold pureD
    rw [ev_len]
  unfold listT
  show (match (some (.tup es) : Option D), pureD m_Row___len__ [robj B es m o ts] with
    | some (.tup es), some (.int k) => if 0 ≤ k ∧ k ≤ szL then some (D.lst es) else none
    | _, _ => none) = _
  rw [e]
  have := szL_big
  show (if (0 : Int) ≤ ((ts.length : Nat) : Int) ∧ ((ts.length : Nat) : Int) ≤ szL then some (D.lst es) else none) = _
  rw [if_pos ⟨by omega, by omega⟩]
theorem len_of (hz : ts.length ≤ 25) : lenY tlnT [robj B es m o ts] = some (.int (ts.length : Nat)) := by
  have e : pureD m_Row___len__ [robj B es m o ts] = some (.int (ts.length : Nat)) := by
    unfold pureD
    rw [ev_len]
  unfold lenY lenT robj
  show (match pureD m_Row___len__ [robj B es m o ts] with
    | some (.int i) => if 0 ≤ i ∧ i < 2 ^ 63 then some (D.int i) else none
    | _ => none) = _
  rw [e]
  show (if (0 : Int) ≤ ((ts.length : Nat) : Int) ∧ ((ts.length : Nat) : Int) < 2 ^ 63 then some (D.int (ts.length : Nat)) else none) = _
  rw [if_pos ⟨by omega, by omega⟩]
theorem ev_eq {B' m' : Int} {es' : List D} {o' : D} {ts' : List Int} (g : G) : m_Row___eq__ [robj B es m o ts, robj B' es' m' o' ts'] g = .ok (.v (.bl (decide (m = m') && (decide (ts = ts') && decide (B = B'))))) g := by
  have e1 : Es (sNot (sTru (sUn (isoD tj_Row) (sVar 1)))) ⟨[.v (robj B es m o ts), .v (robj B' es' m' o' ts')], g⟩ false ⟨[.v (robj B es m o ts), .v (robj B' es' m' o' ts')], g⟩ := Es.nt (k := true) (Es.tru (x := .bl true) (Es.un (Es.var rfl) rfl) rfl)
  have e2 : Es (sTst (sBin neD (sAttr ta_own_modulus (sVar 0)) (sAttr ta_own_modulus (sVar 1)))) ⟨[.v (robj B es m o ts), .v (robj B' es' m' o' ts')], g⟩ (!decide (m = m')) ⟨[.v (robj B es m o ts), .v (robj B' es' m' o' ts')], g⟩ := Es.tst (Es.bin (Es.attr (Es.var rfl) rfl rfl) (Es.attr (Es.var rfl) rfl rfl) (neD_int _ _))
  refine mOf_ok rfl (sl := [.v (robj B es m o ts), .v (robj B' es' m' o' ts')]) ?_
  unfold b_Row___eq__
  by_cases hm : m = m'
  · rw [decide_eq_true hm, Bool.true_and]
    rw [decide_eq_true hm] at e2
    refine Ss.seq (Ss.ifF (k := false) (Es.orF e1 rfl e2) rfl Ss.next) (Ss.ret ?_)
    have e3 : Es (sBin eqX (sAttr ta_own_tops (sVar 0)) (sAttr ta_own_tops (sVar 1))) ⟨[.v (robj B es m o ts), .v (robj B' es' m' o' ts')], g⟩ (.bl (decide (ts = ts'))) ⟨[.v (robj B es m o ts), .v (robj B' es' m' o' ts')], g⟩ := Es.bin (Es.attr (Es.var rfl) rfl rfl) (Es.attr (Es.var rfl) rfl rfl) eqX_tints
    by_cases ht : ts = ts'
    · rw [decide_eq_true ht, Bool.true_and]
      exact Es.andVT e3 (decide_eq_true ht) (Es.bin (Es.attr (Es.var rfl) rfl rfl) (Es.attr (Es.var rfl) rfl rfl) (eqX_int _ _))
    · rw [decide_eq_false ht, Bool.false_and]
      exact Es.andVF e3 (decide_eq_false ht)
  · rw [decide_eq_false hm, Bool.false_and]
    rw [decide_eq_false hm] at e2
    exact Ss.seqR (Ss.ifT (k := true) (Es.orF e1 rfl e2) rfl (Ss.ret Es.c))
theorem ev_eq_no {e : D} (h : isoD tj_Row e = some (.bl false)) (g : G) : m_Row___eq__ [robj B es m o ts, e] g = .ok (.v (.bl false)) g := by
  refine mOf_ok rfl (sl := [.v (robj B es m o ts), .v e]) ?_
  unfold b_Row___eq__
  exact Ss.seqR (Ss.ifT (k := true) (Es.orT (k := true) (Es.nt (k := false) (Es.tru (x := .bl false) (Es.un (Es.var rfl) h) rfl)) rfl) rfl (Ss.ret Es.c))
theorem eqO_of {neg : Bool} {e : D} {b : Bool} (hk : knownD tkT e = true) (h : ∀ g, m_Row___eq__ [robj B es m o ts, e] g = .ok (.v (.bl b)) g) : eqO teqT tkT neg (robj B es m o ts) e = some (.bl (b != neg)) := by
  have e1 : pureD m_Row___eq__ [robj B es m o ts, e] = some (.bl b) := by
    unfold pureD
    rw [h]
  unfold eqO robj
  show (if knownD tkT e = true then (blO (pureD m_Row___eq__ [robj B es m o ts, e])).map fun b => D.bl (b != neg) else none) = _
  rw [if_pos hk, e1]
  rfl
theorem rowS_sx {v : List Rat} {m : Int} (hr : Rq v) (lv : v.length ≤ 25) (hm : 0 ≤ m) (hm2 : m ≤ 10000) : SX 150000 (rowS v m) :=
  ((((fullS_sx hr lv).app (SX.lit " to " (n := 4))).app (SX.int (len_log lv))).app (tail_sx hm hm2)).mono (by decide)
theorem str_of {T : Str} {n : Nat} (hn : SX n T) (h1 : n ≤ 1000000) (h : ∀ g, m_row_text [.tup (ints' ts), .int B, .int m] g = .ok (.v (.str T)) g) : strD tstT [robj B es m o ts] = some (.str T) := by
  have e : ∀ g, m_Row___str__ [robj B es m o ts] g = .ok (.v (.str T)) g := fun g => by
    refine mOf_ok rfl (sl := [.v (robj B es m o ts)]) ?_
    unfold b_Row___str__
    exact Ss.ret (Es.un (Es.callV (Es.cons (Es.attr (Es.var rfl) rfl rfl) (Es.cons (Es.attr (Es.var rfl) rfl rfl) (Es.cons (Es.attr (Es.var rfl) rfl rfl) Es.nil))) h) (fmt_str hn h1))
  have e1 : pureD m_Row___str__ [robj B es m o ts] = some (.str T) := by
    unfold pureD
    rw [e]
  show (strO (pureD m_Row___str__ [robj B es m o ts])).map D.str = _
  rw [e1]
  rfl
theorem law_whole_ok (h : B = 1) (g : G) : m__law_whole [robj B es m o ts] g = .ok (.v (.tup (ints' ts))) g := by
  subst h
  rfl
theorem law_whole_no (h : B ≠ 1) (g : G) : m__law_whole [robj B es m o ts] g = .ok (.v (.tup [.str (Str.ofString "raised"), .str (Str.ofString "operation")])) g := by
  have e := fun g => ev_whole_no (es := es) (m := m) (o := o) (ts := ts) h g
  unfold m__law_whole mOf
  show (b__law_whole ⟨[.v (robj B es m o ts)], g⟩).fr = _
  unfold b__law_whole
  have e2 : (zRet (sMth tm_whole (sVar 0) sNil) : LSt → Fl) ⟨[.v (robj B es m o ts)], g⟩ = .ex ⟨8, []⟩ ⟨[.v (robj B es m o ts)], g⟩ := by
    unfold zRet sMth
    have ev : sVar 0 ⟨[.v (robj B es m o ts)], g⟩ = .ok (robj B es m o ts) ⟨[.v (robj B es m o ts)], g⟩ := rfl
    rw [ev]
    have e' := e g
    unfold robj at e' ⊢
    simp only [Res.bind, sNil]
    show Res.toFl (match m_Row_whole [.ins 3 [.int B, .tup es, .int m, o, .tup (ints' ts)]] g with
      | .ok e g => Res.ok e.d (LSt.mk [.v (.ins 3 [.int B, .tup es, .int m, o, .tup (ints' ts)])] g)
      | .ex x g => .ex x (LSt.mk [.v (.ins 3 [.int B, .tup es, .int m, o, .tup (ints' ts)])] g)
      | .bad => .bad) _ = _
    rw [e']
    rfl
  unfold zTry
  rw [e2]
  rfl
end
theorem ev_ratio_eq (q : Rat) (g : G) : m_Ratio___eq__ [ratD q, ratD q] g = .ok (.v (.bl true)) g := by
  refine mOf_ok rfl (sl := [.v (ratD q), .v (ratD q)]) ?_
  unfold b_Ratio___eq__
  refine Ss.seq (Ss.ifF (k := false) (Es.nt (k := true) (Es.tru (x := .bl true) (Es.un (Es.var rfl) rfl) rfl)) rfl Ss.next) (Ss.ret (Es.andVT (k := true) (Es.bin (Es.attr (Es.var rfl) rfl rfl) (Es.attr (Es.var rfl) rfl rfl) (by rw [eqX_int, decide_eq_true rfl])) rfl (Es.bin (Es.attr (Es.var rfl) rfl rfl) (Es.attr (Es.var rfl) rfl rfl) (by rw [eqX_int, decide_eq_true rfl]))))
theorem eqIs_rats : ∀ v : List Rat, eqIs teqT tkT (v.map ratD) (v.map ratD) = true
  | [] => rfl
  | q :: v => by
    have e : pureD m_Ratio___eq__ [.ins 1 [.int q.den, .int q.num], .ins 1 [.int q.den, .int q.num]] = some (.bl true) := by
      have := ev_ratio_eq q
      unfold ratD at this
      unfold pureD
      rw [this]
    show (eqI1 teqT tkT (ratD q) (ratD q) && eqIs teqT tkT (v.map ratD) (v.map ratD)) = true
    rw [eqIs_rats v, Bool.and_true]
    show (true && (match (blO (pureD m_Ratio___eq__ [.ins 1 [.int q.den, .int q.num], .ins 1 [.int q.den, .int q.num]])) with
      | some true => true
      | _ => false)) = true
    rw [e]
    rfl
theorem ne_rats {v : List Rat} (h : v ≠ []) : neY teqT tkT (.lst (v.map ratD)) (.lst (v.map ratD)) = some (.bl false) := by
  cases v with
  | nil => exact absurd rfl h
  | cons q v =>
    show (if eqIs teqT tkT ((q :: v).map ratD) ((q :: v).map ratD) = true then some (D.bl (!true)) else none) = _
    rw [if_pos (eqIs_rats _)]
    rfl
end K08

namespace K08
open PySem PySem.Spec PyProof.Rows L2 Dx
open Cv (co it mk)
def ldN (v : List Rat) : List Nat := (List.range v.length).filter fun i => !decide ((co v i).num = 0)
theorem first_of (v : List Rat) : DxE.fstI (Ln.T v) = (ldN v)[0]? := by
  unfold DxE.fstI passing ldN
  rw [Ln.T_length, List.drop_zero]
  congr 1
  refine List.filter_congr fun i hi => ?_
  have hi : i < v.length := List.mem_range.mp hi
  have hlt : i < (Ln.T v).length := by rw [Ln.T_length]; exact hi
  unfold DxE.nz
  rw [List.getElem?_eq_getElem hlt]
  obtain ⟨_, _, _, _, _, _, _, _, h⟩ := top_of v i
  have e : it (Ln.T v) i = (Ln.T v)[i] := by
    unfold it
    rw [List.getD_eq_getElem?_getD, List.getElem?_eq_getElem hlt]
    rfl
  rw [e] at h
  show ((Ln.T v)[i] != 0) = _
  by_cases hz : (Ln.T v)[i] = 0
  · rw [hz, decide_eq_true (h.mp hz)]
    rfl
  · rw [decide_eq_false (fun z => hz (h.mpr z))]
    simpa using hz
def ldI (v : List Rat) : List Int := (ldN v).map fun i : Nat => (i : Int)
theorem ldI_ints (v : List Rat) : (ldN v).map (fun i => D.int ((i : Nat) : Int)) = ints' (ldI v) := by
  unfold ints' ldI
  rw [List.map_map]
  rfl
theorem ld_item (v : List Rat) {sl : List Slot} {g : G} (h : sl[4]? = some (.v (.lst (ints' (ldI v))))) : Es (sIf (sTst (sBin (neY teqT tkT) (sVar 4) (sFrz (sLst sNil)))) (sBin ixD (sVar 4) (sC (.int (0)))) (sC .non)) ⟨sl, g⟩ (ordD (Ln.T v)) ⟨sl, g⟩ := by
  have e0 : Es (sFrz (sLst sNil)) (⟨sl, g⟩ : LSt) (.lst (ints' [])) ⟨sl, g⟩ := Es.frz (co := .lst []) (Es.lst Es.nil (by decide))
  unfold ordD
  rw [first_of]
  cases hl : ldN v with
  | nil =>
    have e : ldI v = [] := by unfold ldI; rw [hl]; rfl
    refine Es.ifF (k := false) (Es.tst (Es.bin (Es.var h) e0 ?_)) rfl Es.c
    rw [neY_lints, e]
    rfl
  | cons i is =>
    have e : ldI v = (i : Int) :: is.map fun i => ((i : Nat) : Int) := by unfold ldI; rw [hl]; rfl
    refine Es.ifT (k := true) (Es.tst (Es.bin (Es.var h) e0 ?_)) rfl (Es.bin (Es.var h) Es.c ?_)
    · rw [neY_lints, e]
      rfl
    · rw [e]
      rfl
theorem ne_four {a b : Int} {o : D} (ho : o = .non ∨ ∃ i, o = .int i) : neD (.lst [.int a, .int 0, o, .int b]) (.lst [.int a, .int 0, o, .int b]) = some (.bl false) := by
  rcases ho with rfl | ⟨i, rfl⟩
  · show (if SeqAt.shaped (.list [.int a, .int 0, .none, .int b]) = true ∧ SeqAt.shaped (.list [.int a, .int 0, .none, .int b]) = true then some (D.bl (!((a == a) && (((0 : Int) == 0) && (true && ((b == b) && true)))))) else none) = _
    rw [if_pos ⟨by rfl, by rfl⟩]
    simp
  · show (if SeqAt.shaped (.list [.int a, .int 0, .int i, .int b]) = true ∧ SeqAt.shaped (.list [.int a, .int 0, .int i, .int b]) = true then some (D.bl (!((a == a) && (((0 : Int) == 0) && ((i == i) && ((b == b) && true)))))) else none) = _
    rw [if_pos ⟨by rfl, by rfl⟩]
    simp
theorem ord_or (ts : List Int) : ordD ts = .non ∨ ∃ i, ordD ts = .int i := by
  unfold ordD
  cases DxE.fstI ts with
  | none => exact .inl rfl
  | some i => exact .inr ⟨_, rfl⟩
theorem ev_are_whole {v : List Rat} (lv : v.length ≤ 25) (g : G) : m__law_are_whole [.lst (v.map pairD)] g = .ok (.v (.bl (decide (Ln.B v = 1)))) g := by
  have h1 : Es (sFrz (sComp (sItems (sVar 0)) (gSet 1) (sTst (sBin (neY teqT tkT) (sBin ixD (sVar 1) (sC (.int (1)))) (sC (.int (1))))) (sVar 1) [1])) ⟨[.v (.lst (v.map pairD)), .un], g⟩ (.lst ((v.filter fun q => !decide (((q.den : Nat) : Int) = 1)).map pairD)) ⟨[.v (.lst (v.map pairD)), .un], g⟩ :=
    Es.frz (co := .lst ((v.filter fun q => !decide (((q.den : Nat) : Int) = 1)).map pairD)) (Es.compF pairD pairD (fun q => !decide (((q.den : Nat) : Int) = 1)) (Es.items (Es.var rfl) rfl) rfl (szn (by omega)) fun q _ => ⟨⟨[.v (.lst (v.map pairD)), .v (pairD q)], g⟩, ⟨[.v (.lst (v.map pairD)), .v (pairD q)], g⟩, rfl, Es.tst (Es.bin (Es.bin (Es.var rfl) Es.c rfl) Es.c (neY_int _ _)), fun _ => ⟨_, Es.var rfl, rfl⟩, fun _ => rfl⟩)
  refine mOf_ok rfl (sl := [.v (.lst (v.map pairD)), .un]) ?_
  unfold b__law_are_whole
  refine Ss.ret (Es.bin h1 (Es.frz (co := .lst []) (Es.lst Es.nil (by decide))) ?_)
  rw [show (CO.lst []).d = D.lst [] from rfl, eq_no_pairs]
  refine congrArg (fun b => some (D.bl b)) (decide_eq_decide.mpr ?_)
  rw [B_one, List.filter_eq_nil_iff]
  refine ⟨fun h q hq => ?_, fun h q hq => ?_⟩
  · have := h q hq
    simp at this
    omega
  · have := h q hq
    simp
    omega
end K08

namespace K08
open PySem PySem.Spec PyProof.Rows L2 Dx
open Cv (co it mk)
def mixD (q : Rat) : D := if q.den = 1 then .int q.num else ratD q
theorem mix_en {v : List Rat} (hr : Rq v) : ∀ q ∈ v, En (mixD q) q := fun q hq => by
  unfold mixD
  by_cases h : q.den = 1
  · rw [if_pos h]
    have e : ((q.num : Int) : Rat) = q := by
      have := Ln.num_div_den q
      rw [h, show (((1 : Nat) : Int) : Rat) = 1 from rfl] at this
      rw [← this]
      have : (q.num : Rat) / 1 = q.num := by grind
      rw [this, Rat.num_intCast]
    have := En.i q.num (lt_shortB (hr q hq).1)
    rw [e] at this
    exact this
  · rw [if_neg h]
    exact .r q
theorem es_mix {v : List Rat} (hr : Rq v) (lv : v.length ≤ 25) {sl : List Slot} {g : G} (h1 : sl[1]? = some (.v (.lst (v.map pairD)))) (h6 : sl[6]? = some .un) :
    Es (sBlt tupD (sCons (sFrz (sComp (sItems (sVar 1)) (gSet 6) sYes (sIf (sTst (sBin (eqY teqT tkT) (sBin ixD (sVar 6) (sC (.int (1)))) (sC (.int (1))))) (sBin ixD (sVar 6) (sC (.int (0)))) (sCall (mkC 1 i_Ratio) (sCons (sBin ixD (sVar 6) (sC (.int (0)))) (sCons (sBin ixD (sVar 6) (sC (.int (1)))) sNil)))) [6])) sNil)) ⟨sl, g⟩ (.tup (v.map mixD)) ⟨sl, g⟩ := by
  have hlen : 6 < sl.length := (List.getElem?_eq_some_iff.mp h6).1
  have wp : ∀ d : D, LSt.wipeL ⟨sl.set 6 (.v d), g⟩ [6] = (⟨sl, g⟩ : LSt) := fun d => by
    show (⟨(sl.set 6 (.v d)).set 6 .un, g⟩ : LSt) = _
    rw [List.set_set]
    congr 1
    exact List.ext_getElem? fun j => by
      by_cases hj : j = 6
      · subst hj
        rw [List.getElem?_set_self hlen, h6]
      · rw [List.getElem?_set_ne (Ne.symm hj)]
  have w0 : LSt.wipeL ⟨sl, g⟩ [6] = (⟨sl, g⟩ : LSt) := by
    show (⟨sl.set 6 .un, g⟩ : LSt) = _
    congr 1
    exact List.ext_getElem? fun j => by
      by_cases hj : j = 6
      · subst hj
        rw [List.getElem?_set_self hlen, h6]
      · rw [List.getElem?_set_ne (Ne.symm hj)]
  refine Es.blt (ds := [.lst (v.map mixD)]) (Es.cons (Es.frz (co := .lst (v.map mixD)) (Es.compB pairD mixD (Es.items (Es.var h1) rfl) w0 (szn (by omega)) fun q hq => ⟨⟨sl.set 6 (.v (pairD q)), g⟩, ⟨sl.set 6 (.v (pairD q)), g⟩, rfl, ?_, wp _⟩)) Es.nil) rfl
  have hv : (sl.set 6 (.v (pairD q)))[6]? = some (.v (pairD q)) := List.getElem?_set_self hlen
  unfold mixD
  by_cases h : q.den = 1
  · rw [if_pos h]
    exact Es.ifT (k := true) (Es.tst (Es.bin (Es.bin (Es.var hv) Es.c rfl) Es.c (by rw [eqY_int, decide_eq_true (by omega)]))) rfl (Es.bin (Es.var hv) Es.c rfl)
  · rw [if_neg h]
    refine Es.ifF (k := false) (Es.tst (Es.bin (Es.bin (Es.var hv) Es.c rfl) Es.c (by rw [eqY_int, decide_eq_false (by omega)]))) rfl (Es.callV (ds := [.int q.num, .int (q.den : Nat)]) (Es.cons (Es.bin (Es.var hv) Es.c rfl) (Es.cons (Es.bin (Es.var hv) Es.c rfl) Es.nil)) fun g => ?_)
    have := ev_Ratio (lt_shortB (hr q hq).1) (lt_shortB ((hr q hq).2.mono (by decide))) (den_ne q) g
    rw [Ln.num_div_den] at this
    exact this
theorem ndD (v : List Rat) (k : Nat) (hk : k < v.length) : (v.map ratD)[k]? = some (ratD (co v k)) := by
  rw [List.getElem?_map, List.getElem?_eq_getElem hk]
  unfold co
  rw [List.getD_eq_getElem?_getD, List.getElem?_eq_getElem hk]
  rfl
theorem rats_mk (v : List Rat) : v.map ratD = mk v.length fun k => ratD (co v k) := by
  conv => lhs; rw [← Cv.mk_co v, Cv.mk_map]
theorem zero_rq {v : List Rat} (h : Rq v) : Rq (v ++ [0]) := fun q hq => by
  rcases List.mem_append.mp hq with h1 | h1
  · exact h q h1
  · cases List.mem_singleton.mp h1
    exact ⟨by unfold Lt; decide, by unfold Lt; decide⟩
theorem fractions_ok (t : Int × Int × Int) : ∃ t', m__law_fractions_right [.dice] ⟨some t, none⟩ = .ok (.v (.bl true)) ⟨some t', none⟩ := by
  obtain ⟨r, t1, e1, r0, r1⟩ := es_roll (sl := [.v .dice, .un, .un, .un, .un, .un, .un, .un, .un]) rfl (n := 25) (by decide) (by decide) t
  obtain ⟨d, t2, ep, hd⟩ := Dx.Ev.ev_pick t1 [.int 3, .int 12, .int 100000000000000000000, .int M59] (by simp) (by simp)
  obtain ⟨m, rfl, m1, m2⟩ : ∃ m : Int, d = .int m ∧ 1 ≤ m ∧ m ≤ M59 := by
    simp only [List.mem_cons, List.not_mem_nil, or_false] at hd
    rcases hd with rfl | rfl | rfl | rfl
    · exact ⟨3, rfl, by decide, by decide⟩
    · exact ⟨12, rfl, by decide, by decide⟩
    · exact ⟨_, rfl, by decide, by decide⟩
    · exact ⟨_, rfl, by decide, by decide⟩
  obtain ⟨n, rfl⟩ : ∃ n : Nat, r = (n : Int) := ⟨r.toNat, by omega⟩
  obtain ⟨v, t3, ev, lv, hr⟩ := ev_drawn (n := n) (by omega) m1 m2 t2
  have l25 : v.length ≤ 25 := by omega
  have l1 : 1 ≤ v.length := by omega
  have v0 : v ≠ [] := fun z => by rw [z] at l1; simp at l1
  have hB : Sz (Ln.B v) := sz_B ((den_ltB fun q hq => (hr q hq).2).sz (by omega))
  refine ⟨t3, EndS.m rfl ?_⟩
  unfold b__law_fractions_right
  simp only [List.map_cons, List.map_nil, Nat.reduceSub, List.replicate_succ, List.replicate_zero, List.cons_append, List.nil_append, List.replicate]
  refine EndS.seq (l1 := ⟨[.v .dice, .v (.lst (v.map pairD)), .un, .un, .un, .un, .un, .un, .un], ⟨some t3, none⟩⟩) (Ss.set (Es_callG (g := ⟨some t2, none⟩) (ds := [.dice, .int (n : Int), .int m]) (Es.cons (Es.var rfl) (Es.cons e1 (Es.cons (Es_callG (g := ⟨some t1, none⟩) (ds := [.dice, .lst [.int 3, .int 12, .int 100000000000000000000, .int M59]]) (Es.cons (Es.var rfl) (Es.cons (Es.frz (co := .lst [.int 3, .int 12, .int 100000000000000000000, .int M59]) (Es.lst (Es.cons Es.c (Es.cons Es.c (Es.cons (Es.bin Es.c Es.c (by kernel_rfl)) (Es.cons (Es.bin Es.c Es.c (by kernel_rfl)) Es.nil)))) (by show 4 ≤ szL; decide))) Es.nil)) (by rw [pick_eq]; exact ep)) Es.nil))) ev) rfl) ?_
  refine EndS.seq (l1 := ⟨[.v .dice, .v (.lst (v.map pairD)), .v (rowD v), .v (.int ((v.length : Int) - 1)), .un, .un, .un, .un, .un], ⟨some t3, none⟩⟩) (Ss.asg (d := .tup [rowD v, .int ((v.length : Int) - 1)]) (Es.tup (Es.cons (Es.callV (Es.cons (Es.var rfl) Es.nil) (ev_rw_made l1 l25 hr)) (Es.cons (Es.bin (Es.blt (Es.cons (Es.var rfl) Es.nil) (lenD_pairs v)) Es.c rfl) Es.nil)) (len2 _ _)) rfl) ?_
  generalize hg : (⟨some t3, none⟩ : G) = g
  obtain ⟨L4, hL4⟩ : ∃ L4 : Slot, L4 = .v (.lst (ints' (ldI v))) := ⟨_, rfl⟩
  have hlz : v.length ≤ szL := szn (by omega)
  refine EndS.seq (l1 := ⟨[.v .dice, .v (.lst (v.map pairD)), .v (rowD v), .v (.int ((v.length : Int) - 1)), .own (.lst (ints' (ldI v))), .un, .un, .un, .un], g⟩) (Ss.setO (sl1 := [.v .dice, .v (.lst (v.map pairD)), .v (rowD v), .v (.int ((v.length : Int) - 1)), .un, .un, .un, .un, .un]) (g2 := g) (co := .lst (ints' (ldI v))) ?_ rfl) ?_
  · rw [← ldI_ints]
    exact Es.compF (fun i => D.tup [.int ((i : Nat) : Int), pairD (co v i)]) (fun i => D.int ((i : Nat) : Int)) (fun i => !decide ((co v i).num = 0)) (bs := List.range v.length) (Es.walk (Es.cons (Es.var rfl) Es.nil) (by rw [pairs_mk]; exact enum_mk _ _)) rfl (by rw [List.length_range]; exact hlz) fun i _ => ⟨⟨[.v .dice, .v (.lst (v.map pairD)), .v (rowD v), .v (.int ((v.length : Int) - 1)), .un, .v (.int ((i : Nat) : Int)), .v (pairD (co v i)), .un, .un], g⟩, ⟨[.v .dice, .v (.lst (v.map pairD)), .v (rowD v), .v (.int ((v.length : Int) - 1)), .un, .v (.int ((i : Nat) : Int)), .v (pairD (co v i)), .un, .un], g⟩, rfl, Es.tst (Es.bin (Es.bin (Es.var rfl) Es.c rfl) Es.c (neY_int _ _)), fun _ => ⟨_, Es.var rfl, rfl⟩, fun _ => rfl⟩
  have lT : (Ln.T v).length = v.length := Ln.T_length v
  have rd : rowD v = robj (Ln.B v) (v.map ratD) 0 (ordD (Ln.T v)) (Ln.T v) := rfl
  refine EndS.seq (l1 := ⟨[.v .dice, .v (.lst (v.map pairD)), .v (rowD v), .v (.int ((v.length : Int) - 1)), .v (.lst (ints' (ldI v))), .un, .un, .un, .un], g⟩) (Ss.ifF (k := false) (Es.tst (Es.bin (x := .lst [.int ((v.length : Int) - 1), .int 0, ordD (Ln.T v), .int (v.length : Nat)]) (y := .lst [.int ((v.length : Int) - 1), .int 0, ordD (Ln.T v), .int (v.length : Nat)]) (l1 := ⟨[.v .dice, .v (.lst (v.map pairD)), .v (rowD v), .v (.int ((v.length : Int) - 1)), .own (.lst (ints' (ldI v))), .un, .un, .un, .un], g⟩) ?_ ?_ (ne_four (ord_or _)))) rfl Ss.next) ?_
  · refine Es.frz (co := .lst _) (Es.lst (Es.cons (Es.prpV (Es.var rfl) rfl fun g => ?_) (Es.cons (Es.prpV (d := .int 0) (Es.var rfl) rfl fun g => by rfl) (Es.cons (Es.prpV (d := ordD (Ln.T v)) (Es.var rfl) rfl fun g => by rfl) (Es.cons (Es.blt (Es.cons (Es.var rfl) Es.nil) ?_) Es.nil)))) (by show 4 ≤ szL; decide))
    · have := ev_degree (B := Ln.B v) (m := 0) (es := v.map ratD) (o := ordD (Ln.T v)) (ts := Ln.T v) g
      rw [lT] at this
      exact this
    · have := len_of (B := Ln.B v) (m := 0) (es := v.map ratD) (o := ordD (Ln.T v)) (ts := Ln.T v) (by omega)
      rw [lT] at this
      exact this
  · refine Es.frz (co := .lst _) (Es.lst (Es.cons (Es.var rfl) (Es.cons Es.c (Es.cons (l1 := ⟨[.v .dice, .v (.lst (v.map pairD)), .v (rowD v), .v (.int ((v.length : Int) - 1)), .v (.lst (ints' (ldI v))), .un, .un, .un, .un], g⟩) ?_ (Es.cons (Es.bin (Es.var rfl) Es.c ?_) Es.nil)))) (by show 4 ≤ szL; decide))
    · have e0 : Es (sFrz (sLst sNil)) (⟨[.v .dice, .v (.lst (v.map pairD)), .v (rowD v), .v (.int ((v.length : Int) - 1)), .v (.lst (ints' (ldI v))), .un, .un, .un, .un], g⟩ : LSt) (.lst (ints' [])) ⟨[.v .dice, .v (.lst (v.map pairD)), .v (rowD v), .v (.int ((v.length : Int) - 1)), .v (.lst (ints' (ldI v))), .un, .un, .un, .un], g⟩ := Es.frz (co := .lst []) (Es.lst Es.nil (by decide))
      have ev4 : Es (sVar 4) ⟨[.v .dice, .v (.lst (v.map pairD)), .v (rowD v), .v (.int ((v.length : Int) - 1)), .own (.lst (ints' (ldI v))), .un, .un, .un, .un], g⟩ (.lst (ints' (ldI v))) ⟨[.v .dice, .v (.lst (v.map pairD)), .v (rowD v), .v (.int ((v.length : Int) - 1)), .v (.lst (ints' (ldI v))), .un, .un, .un, .un], g⟩ := Es.varO (co := .lst (ints' (ldI v))) rfl rfl
      unfold ordD
      rw [first_of]
      cases hl : ldN v with
      | nil =>
        have e : ldI v = [] := by unfold ldI; rw [hl]; rfl
        refine Es.ifF (k := false) (Es.tst (Es.bin ev4 e0 ?_)) rfl Es.c
        rw [neY_lints, e]
        rfl
      | cons i is =>
        have e : ldI v = (i : Int) :: is.map fun i : Nat => (i : Int) := by unfold ldI; rw [hl]; rfl
        refine Es.ifT (k := true) (Es.tst (Es.bin ev4 e0 ?_)) rfl (Es.bin (Es.var rfl) Es.c ?_)
        · rw [neY_lints, e]
          rfl
        · rw [e]
          rfl
    · show some (D.int ((v.length : Int) - 1 + 1)) = _
      rw [Int.sub_add_cancel]
  have hlist : listT titT tlnT [rowD v] = some (.lst (v.map ratD)) := list_of (B := Ln.B v) (m := 0) (es := v.map ratD) (o := ordD (Ln.T v)) (ts := Ln.T v) (by omega)
  refine EndS.seq (Ss.ifF (k := false) (Es.orF (k := false) (Es.tst (Es.bin (Es.callV (Es.cons (Es.var rfl) Es.nil) (ev_pairs_of (by omega))) (Es.var rfl) (ne_pairs v))) rfl (Es.orF (k := false) (Es.tst (Es.bin (Es.blt (Es.cons (Es.var rfl) Es.nil) hlist) (Es.frz (co := .lst (v.map ratD)) (Es.lstOfT (Es.prpV (d := .tup (v.map ratD)) (Es.var rfl) rfl fun g => by rfl))) (ne_rats v0))) rfl (Es.tst (Es.bin (x := .lst (v.map ratD)) (l1 := ⟨[.v .dice, .v (.lst (v.map pairD)), .v (rowD v), .v (.int ((v.length : Int) - 1)), .v (.lst (ints' (ldI v))), .un, .un, .un, .un], g⟩) (Es.frz (co := .lst (v.map ratD)) ?_) (Es.blt (Es.cons (Es.var rfl) Es.nil) hlist) (ne_rats v0))))) rfl Ss.next) ?_
  · rw [rats_mk v]
    refine Es.compB (fun k : Nat => D.int ((k : Nat) : Int)) (fun k => ratD (co v k)) (bs := List.range v.length) (Es.walk (ds := [.int ((v.length : Nat) : Int)]) (Es.cons (Es.bin (Es.var rfl) Es.c ?_) Es.nil) (rng1_mk (by omega))) rfl (by rw [List.length_range]; exact hlz) fun k hk => ⟨⟨[.v .dice, .v (.lst (v.map pairD)), .v (rowD v), .v (.int ((v.length : Int) - 1)), .v (.lst (ints' (ldI v))), .v (.int (k : Int)), .un, .un, .un], g⟩, ⟨[.v .dice, .v (.lst (v.map pairD)), .v (rowD v), .v (.int ((v.length : Int) - 1)), .v (.lst (ints' (ldI v))), .v (.int (k : Int)), .un, .un, .un], g⟩, rfl, Es.mthV (Es.var rfl) rfl (Es.cons (Es.var rfl) Es.nil) fun g => ?_, rfl⟩
    · show some (D.int ((v.length : Int) - 1 + 1)) = _
      rw [Int.sub_add_cancel]
    · have hk : k < v.length := List.mem_range.mp hk
      exact ev_at (B := Ln.B v) (m := 0) (es := v.map ratD) (o := ordD (Ln.T v)) (ts := Ln.T v) (by rw [List.length_map, lT]) (by omega) (by omega) (ndD v k hk) g
  refine EndS.seq (l1 := ⟨[.v .dice, .v (.lst (v.map pairD)), .v (rowD v), .v (.int ((v.length : Int) - 1)), .v (.lst (ints' (ldI v))), .un, .un, .v (.bl (decide (Ln.B v = 1))), .un], g⟩) (Ss.set (Es.callV (Es.cons (Es.var rfl) Es.nil) (ev_are_whole l25)) rfl) ?_
  have hstr : strD tstT [rowD v] = some (.str (rowS v 0)) := str_of (B := Ln.B v) (m := 0) (es := v.map ratD) (o := ordD (Ln.T v)) (ts := Ln.T v) (rowS_sx hr l25 (by decide) (by decide)) (by decide) fun g => ev_row_text hr l25 hB (by decide) (by decide) g
  have hw : ∀ b : Bool, neY teqT tkT (.bl b) (.bl b) = some (.bl false) := fun b => by cases b <;> rfl
  refine EndS.seq (Ss.ifF (k := false) (Es.orF (k := false) (Es.tst (Es.bin (x := .bl (decide (Ln.B v = 1))) (Es.prpV (Es.var rfl) rfl fun g => ?_) (Es.var rfl) (hw _))) rfl (Es.tst (Es.bin (Es.blt (Es.cons (Es.var rfl) Es.nil) hstr) (Es.callV (Es.cons (Es.var rfl) (Es.cons Es.c Es.nil)) (ev_rw_text hr l25 (by decide) (by decide))) ((neY_str (rowS_sx hr l25 (by decide) (by decide)) (rowS_sx hr l25 (by decide) (by decide))).trans (by rw [decide_eq_true rfl]; rfl))))) rfl Ss.next) ?_
  · have := ev_whole_is (B := Ln.B v) (m := 0) (es := v.map ratD) (o := ordD (Ln.T v)) (ts := Ln.T v) g
    rw [decide_eq_true rfl, Bool.true_and] at this
    exact this
  refine EndS.seq (l1 := ⟨[.v .dice, .v (.lst (v.map pairD)), .v (rowD v), .v (.int ((v.length : Int) - 1)), .v (.lst (ints' (ldI v))), .un, .un, .v (.bl (decide (Ln.B v = 1))), .un], g⟩) (Ss.ifF (k := false) (Es.tst (k := false) ?_) rfl Ss.next) ?_
  · by_cases h1 : Ln.B v = 1
    · have ht : Es (sTru (sVar 7)) ⟨[.v .dice, .v (.lst (v.map pairD)), .v (rowD v), .v (.int ((v.length : Int) - 1)), .v (.lst (ints' (ldI v))), .un, .un, .v (.bl (decide (Ln.B v = 1))), .un], g⟩ true ⟨[.v .dice, .v (.lst (v.map pairD)), .v (rowD v), .v (.int ((v.length : Int) - 1)), .v (.lst (ints' (ldI v))), .un, .un, .v (.bl (decide (Ln.B v = 1))), .un], g⟩ := Es.tru (x := .bl (decide (Ln.B v = 1))) (Es.var rfl) (by rw [decide_eq_true h1]; rfl)
      have en : ints' (Ln.T v) = v.map fun q => D.int q.num := by
        rw [T_num h1]
        unfold ints'
        rw [List.map_map]
        rfl
      refine Es.bin (x := .tup (ints' (Ln.T v))) (y := .tup (ints' (Ln.T v))) (Es.callV (Es.cons (Es.var rfl) Es.nil) fun g => law_whole_ok (B := Ln.B v) (m := 0) (es := v.map ratD) (o := ordD (Ln.T v)) (ts := Ln.T v) h1 g) (Es.ifT ht rfl (Es.blt (ds := [.lst (ints' (Ln.T v))]) (Es.cons (Es.frz (co := .lst (ints' (Ln.T v))) ?_) Es.nil) rfl)) (by rw [neY_tints, decide_eq_true rfl]; rfl)
      rw [en]
      exact Es.compB pairD (fun q => D.int q.num) (Es.items (Es.var rfl) rfl) rfl hlz fun q _ => ⟨⟨[.v .dice, .v (.lst (v.map pairD)), .v (rowD v), .v (.int ((v.length : Int) - 1)), .v (.lst (ints' (ldI v))), .un, .v (pairD q), .v (.bl (decide (Ln.B v = 1))), .un], g⟩, ⟨[.v .dice, .v (.lst (v.map pairD)), .v (rowD v), .v (.int ((v.length : Int) - 1)), .v (.lst (ints' (ldI v))), .un, .v (pairD q), .v (.bl (decide (Ln.B v = 1))), .un], g⟩, rfl, Es.bin (Es.var rfl) Es.c rfl, rfl⟩
    · have ht : Es (sTru (sVar 7)) ⟨[.v .dice, .v (.lst (v.map pairD)), .v (rowD v), .v (.int ((v.length : Int) - 1)), .v (.lst (ints' (ldI v))), .un, .un, .v (.bl (decide (Ln.B v = 1))), .un], g⟩ false ⟨[.v .dice, .v (.lst (v.map pairD)), .v (rowD v), .v (.int ((v.length : Int) - 1)), .v (.lst (ints' (ldI v))), .un, .un, .v (.bl (decide (Ln.B v = 1))), .un], g⟩ := Es.tru (x := .bl (decide (Ln.B v = 1))) (Es.var rfl) (by rw [decide_eq_false h1]; rfl)
      exact Es.bin (Es.callV (Es.cons (Es.var rfl) Es.nil) fun g => law_whole_no (B := Ln.B v) (m := 0) (es := v.map ratD) (o := ordD (Ln.T v)) (ts := Ln.T v) h1 g) (Es.ifF ht rfl (Es.tup (Es.cons Es.c (Es.cons Es.c Es.nil)) (len2 _ _))) (by kernel_rfl)
  refine EndS.seq (l1 := ⟨[.v .dice, .v (.lst (v.map pairD)), .v (rowD v), .v (.int ((v.length : Int) - 1)), .v (.lst (ints' (ldI v))), .un, .un, .v (.bl (decide (Ln.B v = 1))), .v (.tup (v.map mixD))], g⟩) (Ss.set (es_mix hr l25 rfl rfl) rfl) (EndS.ret (sl := [.v .dice, .v (.lst (v.map pairD)), .v (rowD v), .v (.int ((v.length : Int) - 1)), .v (.lst (ints' (ldI v))), .un, .un, .v (.bl (decide (Ln.B v = 1))), .v (.tup (v.map mixD))]) ?_)
  have hmk : ∀ g, mkC 3 (dfl i_Row (.int 0)) [.tup (v.map mixD)] g = .ok (.v (rowD v)) g := fun g => ev_row_mixed (mix_en hr) l1 l25 hr g
  have hk : ∀ e : D, knownD tkT e = true → isoD tj_Row e = some (.bl false) → neY teqT tkT (rowD v) e = some (.bl true) := fun e h1 h2 => by
    have := eqO_of (neg := true) (B := Ln.B v) (m := 0) (es := v.map ratD) (o := ordD (Ln.T v)) (ts := Ln.T v) (b := false) h1 fun g => ev_eq_no h2 g
    exact this
  refine Es.andVT (k := true) (Es.bin (Es.callV (Es.cons (Es.var rfl) Es.nil) hmk) (Es.var rfl) (eq_rows v)) rfl (Es.andVT (k := true) (Es.bin (Es.var rfl) (Es.var rfl) (hk (.tup (v.map mixD)) rfl rfl)) rfl (Es.andVT (k := true) (Es.bin (Es.var rfl) (Es.var rfl) (hk (.lst (v.map pairD)) rfl rfl)) rfl ?_))
  by_cases h24 : (v.length : Int) - 1 = 24
  · exact Es.orVT (k := true) (Es.bin (Es.var rfl) Es.c (by rw [eqY_int, decide_eq_true h24])) rfl
  · obtain ⟨w, hw⟩ : ∃ w, w = v ++ [0] := ⟨_, rfl⟩
    have rw' : Rq w := hw ▸ zero_rq hr
    have lw : w.length = v.length + 1 := by rw [hw, List.length_append]; rfl
    have hmk2 : ∀ g, mkC 3 (dfl i_Row (.int 0)) [.tup (w.map mixD)] g = .ok (.v (rowD w)) g := fun g => ev_row_mixed (mix_en rw') (by omega) (by omega) rw' g
    have hadd : addD (.tup (v.map mixD)) (.tup [.int 0]) = some (.tup (w.map mixD)) := by
      show (if (v.map mixD).length + 1 ≤ szL then some (D.tup (v.map mixD ++ [.int 0])) else none) = _
      rw [if_pos (by rw [List.length_map]; exact szn (by omega)), hw, List.map_append]
      rfl
    have hneq : neY teqT tkT (rowD v) (rowD w) = some (.bl true) := by
      have := eqO_of (neg := true) (B := Ln.B v) (m := 0) (es := v.map ratD) (o := ordD (Ln.T v)) (ts := Ln.T v) (e := rowD w) (b := _) rfl fun g => ev_eq (B' := Ln.B w) (m' := 0) (es' := w.map ratD) (o' := ordD (Ln.T w)) (ts' := Ln.T w) g
      have hne : Ln.T v ≠ Ln.T w := fun z => by
        have := congrArg List.length z
        rw [Ln.T_length, Ln.T_length, lw] at this
        omega
      rw [decide_eq_false hne, Bool.false_and, Bool.and_false] at this
      exact this
    exact Es.orVF (k := false) (Es.bin (Es.var rfl) Es.c (by rw [eqY_int, decide_eq_false h24])) rfl (Es.bin (Es.var rfl) (Es.callV (Es.cons (Es.bin (Es.var rfl) (Es.tup (Es.cons Es.c Es.nil) (by show 1 ≤ szL; decide)) hadd) Es.nil) hmk2) hneq)
end K08

namespace K08
open PySem PySem.Spec PyProof.Rows L2 Dx
open Cv (co it mk)
def ratv (ts : List Int) : List Rat := ts.map fun x : Int => (x : Rat)
theorem ratv_len (ts : List Int) : (ratv ts).length = ts.length := by unfold ratv; rw [List.length_map]
theorem ratv_B (ts : List Int) : Ln.B (ratv ts) = 1 := B_one.mpr fun q hq => by
  obtain ⟨x, _, rfl⟩ := List.mem_map.mp hq
  exact Rat.den_intCast _
theorem ratv_T (ts : List Int) : Ln.T (ratv ts) = ts := by
  rw [T_num (ratv_B ts)]
  unfold ratv
  rw [List.map_map]
  conv => rhs; rw [← List.map_id ts]
  exact List.map_congr_left fun x _ => Rat.num_intCast x
theorem ratv_pairs (ts : List Int) : (ratv ts).map pairD = ts.map fun x => D.tup [.int x, .int 1] := by
  unfold ratv
  rw [List.map_map]
  refine List.map_congr_left fun x _ => ?_
  show D.tup [.int ((x : Rat)).num, .int ((x : Rat)).den] = _
  rw [Rat.num_intCast, Rat.den_intCast]
  rfl
theorem ratv_rq {ts : List Int} (h : ∀ x ∈ ts, Lt 198 x) : Rq (ratv ts) := fun q hq => by
  obtain ⟨x, hx, rfl⟩ := List.mem_map.mp hq
  refine ⟨by rw [Rat.num_intCast]; exact h x hx, ?_⟩
  rw [Rat.den_intCast]
  unfold Lt
  decide
theorem md_md (m : Int) (ts : List Int) : md m (md m ts) = md m ts := by
  unfold md
  rw [List.map_map]
  exact List.map_congr_left fun x _ => Int.emod_emod x m
theorem md_len (m : Int) (ts : List Int) : (md m ts).length = ts.length := by unfold md; rw [List.length_map]
theorem ratv_mix (ts : List Int) : (ratv ts).map mixD = ints' ts := by
  unfold ratv ints'
  rw [List.map_map]
  refine List.map_congr_left fun x _ => ?_
  show mixD (x : Rat) = _
  unfold mixD
  rw [if_pos (Rat.den_intCast x), Rat.num_intCast]
theorem residues_ok (t : Int × Int × Int) : ∃ t', m__law_residues_right [.dice] ⟨some t, none⟩ = .ok (.v (.bl true)) ⟨some t', none⟩ := by
  obtain ⟨d, t1, ep, hd⟩ := Dx.Ev.ev_pick t [.int 2, .int 5, .int 12, .int 10000] (by simp) (by simp)
  obtain ⟨m, rfl, m1, m2⟩ : ∃ m : Int, d = .int m ∧ 2 ≤ m ∧ m ≤ 10000 := by
    simp only [List.mem_cons, List.not_mem_nil, or_false] at hd
    rcases hd with rfl | rfl | rfl | rfl
    · exact ⟨2, rfl, by decide, by decide⟩
    · exact ⟨5, rfl, by decide, by decide⟩
    · exact ⟨12, rfl, by decide, by decide⟩
    · exact ⟨10000, rfl, by decide, by decide⟩
  obtain ⟨r, t2, e1, r0, r1⟩ := es_roll (sl := [.v .dice, .un, .un, .un, .un, .un, .un, .un]) rfl (n := 12) (by decide) (by decide) t1
  obtain ⟨n, rfl⟩ : ∃ n : Nat, r = (n : Int) := ⟨r.toNat, by omega⟩
  obtain ⟨ts, t3, e3, e4, e5⟩ := Es.compX (e := sBin subD (sCall m__law_roll (sCons (sVar 0) (sCons (sBin powD (sC (.int (10))) (sC (.int (9)))) sNil))) (sBin powD (sC (.int (10))) (sC (.int (8))))) (tg := gSet 4) (vs := [4]) (f := sWalk rng1D (sCons (sBin addD (sVar 2) (sC (.int (1)))) sNil)) (l := ⟨[.v .dice, .v (.int m), .v (.int n), .un, .un, .un, .un, .un], ⟨some t2, none⟩⟩) (fun x : Int => Lt 60 x) D.int (fun t => (⟨[.v .dice, .v (.int m), .v (.int n), .un, .un, .un, .un, .un], ⟨some t, none⟩⟩ : LSt)) (t := t2)
    (Es.walk (ds := [.int ((n + 1 : Nat) : Int)]) (Es.cons (Es.bin (Es.var rfl) Es.c rfl) Es.nil) (rng1_mk (by omega))) rfl (fun d hd t => by
      obtain ⟨r, t', er, r0, r1⟩ := ev_rollB t 1000000000 (by decide) (by decide +kernel)
      refine ⟨r - 100000000, t', ⟨[.v .dice, .v (.int m), .v (.int n), .un, .v d, .un, .un, .un], ⟨some t, none⟩⟩, ⟨[.v .dice, .v (.int m), .v (.int n), .un, .v d, .un, .un, .un], ⟨some t', none⟩⟩, rfl, Es.bin (x := .int r) (y := .int 100000000) (Es_callG (g := ⟨some t, none⟩) (ds := [.dice, .int 1000000000]) (Es.cons (Es.var rfl) (Es.cons (Es.bin Es.c Es.c (by kernel_rfl)) Es.nil)) (by rw [roll_eq]; exact er)) (Es.bin Es.c Es.c (by kernel_rfl)) rfl, rfl, ?_⟩
      unfold Lt
      omega) (by rw [Cv.mk_length]; exact szn (by omega))
  rw [Cv.mk_length] at e4
  have l0 : ts ≠ [] := fun z => by rw [z] at e4; simp at e4
  have hlz : ts.length ≤ szL := szn (by omega)
  have hS : ∀ x ∈ ts, Short x := fun x hx => lt_shortB ((e5 x hx).mono (by decide))
  refine ⟨t3, EndS.m rfl ?_⟩
  unfold b__law_residues_right
  simp only [List.map_cons, List.map_nil, Nat.reduceSub, List.replicate_succ, List.replicate_zero, List.cons_append, List.nil_append, List.replicate]
  refine EndS.seq (l1 := ⟨[.v .dice, .v (.int m), .v (.int n), .un, .un, .un, .un, .un], ⟨some t2, none⟩⟩) (Ss.asg (d := .tup [.int m, .int n]) (l1 := ⟨[.v .dice, .un, .un, .un, .un, .un, .un, .un], ⟨some t2, none⟩⟩) (Es.tup (Es.cons (Es_callG (g := ⟨some t, none⟩) (ds := [.dice, .lst [.int 2, .int 5, .int 12, .int 10000]]) (Es.cons (Es.var rfl) (Es.cons (Es.frz (co := .lst [.int 2, .int 5, .int 12, .int 10000]) (Es.lst (Es.cons Es.c (Es.cons Es.c (Es.cons Es.c (Es.cons Es.c Es.nil)))) (by show 4 ≤ szL; decide))) Es.nil)) (by rw [pick_eq]; exact ep)) (Es.cons e1 Es.nil)) (len2 _ _)) rfl) ?_
  refine EndS.seq (l1 := ⟨[.v .dice, .v (.int m), .v (.int n), .v (.tup (ints' ts)), .un, .un, .un, .un], ⟨some t3, none⟩⟩) (Ss.set (Es.blt (ds := [.lst (ints' ts)]) (Es.cons (Es.frz (co := .lst (ints' ts)) e3) Es.nil) rfl) rfl) ?_
  generalize hg : (⟨some t3, none⟩ : G) = g
  obtain ⟨r, hr⟩ : ∃ r, r = md m ts := ⟨_, rfl⟩
  have lr : r.length = ts.length := by rw [hr, md_len]
  have r0 : r ≠ [] := fun z => l0 (List.length_eq_zero_iff.mp (by rw [← lr, z]; rfl))
  have rb : ∀ x ∈ r, 0 ≤ x ∧ x < m := fun x hx => by
    rw [hr] at hx
    obtain ⟨y, _, rfl⟩ := List.mem_map.mp hx
    exact ⟨Int.emod_nonneg _ (by omega), Int.emod_lt_of_pos _ (by omega)⟩
  have rS : ∀ x ∈ r, Short x := fun x hx => by
    have := rb x hx
    exact ⟨by omega, by omega⟩
  have rq : Rq (ratv r) := ratv_rq fun x hx => by
    have := rb x hx
    exact Lt.mono (a := 60) (by unfold Lt; omega) (by decide)
  refine EndS.seq (l1 := ⟨[.v .dice, .v (.int m), .v (.int n), .v (.tup (ints' ts)), .un, .v (.tup (ints' r)), .un, .un], g⟩) (Ss.set (sl1 := [.v .dice, .v (.int m), .v (.int n), .v (.tup (ints' ts)), .un, .un, .un, .un]) (g2 := g) (d := .tup (ints' r)) (Es.blt (ds := [.lst (ints' r)]) (Es.cons (Es.frz (co := .lst (ints' r)) ?_) Es.nil) rfl) rfl) ?_
  · rw [show ints' r = ts.map fun x => D.int (x % m) by rw [hr]; unfold ints' md; rw [List.map_map]; rfl]
    exact Es.compB D.int (fun x => D.int (x % m)) (Es.items (Es.var rfl) rfl) rfl hlz fun x _ => ⟨⟨[.v .dice, .v (.int m), .v (.int n), .v (.tup (ints' ts)), .un, .un, .v (.int x), .un], g⟩, ⟨[.v .dice, .v (.int m), .v (.int n), .v (.tup (ints' ts)), .un, .un, .v (.int x), .un], g⟩, rfl, Es.bin (x := .int x) (Es.blt (Es.cons (Es.var rfl) Es.nil) rfl) (Es.var rfl) (modD_pos (by omega)), rfl⟩
  have hM : ∀ g, mkC 3 i_Row [.tup (ints' ts), .int m] g = .ok (.v (rowM m r)) g := fun g => by
    rw [hr]
    exact ev_RowM hS l0 (by omega) m1 m2 g
  have hM2 : ∀ g, mkC 3 i_Row [.tup (ints' r), .int m] g = .ok (.v (rowM m r)) g := fun g => by
    have := ev_RowM rS r0 (by omega) m1 m2 g
    rw [show md m r = r by rw [hr, md_md]] at this
    exact this
  have hD : ∀ g, mkC 3 (dfl i_Row (.int 0)) [.tup (ints' r)] g = .ok (.v (rowD (ratv r))) g := fun g => by
    rw [← ratv_mix]
    exact ev_row_mixed (mix_en rq) (by rw [ratv_len]; have := List.length_pos_iff.mpr r0; omega) (by rw [ratv_len]; omega) rq g
  refine EndS.seq (l1 := ⟨[.v .dice, .v (.int m), .v (.int n), .v (.tup (ints' ts)), .un, .v (.tup (ints' r)), .un, .v (rowM m r)], g⟩) (Ss.set (Es.callKV (ds := [.tup (ints' ts)]) (es := [.int m]) (Es.cons (Es.var rfl) Es.nil) (Es.cons (Es.var rfl) Es.nil) ⟨rfl, rfl⟩ hM) rfl) ?_
  have same : ∀ a b : Int, a = b → (some (D.bl (!decide (a = b)))) = some (.bl false) := fun a b h => by rw [decide_eq_true h]; rfl
  have hlist : listT titT tlnT [rowM m r] = some (.lst (ints' r)) := list_of (B := 1) (m := m) (es := ints' r) (o := ordD r) (ts := r) (by omega)
  refine EndS.seq (Ss.ifF (k := false) (Es.orF (k := false) (Es.tst (Es.bin (Es.prpV (d := .tup (ints' r)) (Es.var rfl) rfl fun g => by rfl) (Es.var rfl) (by rw [neY_tints, decide_eq_true rfl]; rfl))) rfl (Es.orF (k := false) (Es.tst (Es.bin (Es.mthV (d := .tup (ints' r)) (Es.var rfl) rfl Es.nil fun g => by rfl) (Es.var rfl) (by rw [neY_tints, decide_eq_true rfl]; rfl))) rfl (Es.orF (k := false) (Es.tru (x := .bl false) (Es.prpV (Es.var rfl) rfl fun g => ?_) rfl) rfl (Es.orF (k := false) (Es.tst (Es.bin (Es.prpV (d := .int m) (Es.var rfl) rfl fun g => by rfl) (Es.var rfl) (by rw [neY_int, decide_eq_true rfl]; rfl))) rfl (Es.tst (Es.bin (Es.blt (Es.cons (Es.var rfl) Es.nil) hlist) (Es.frz (co := .lst (ints' r)) (Es.lstOfT (Es.var rfl))) ((neY_lints r r).trans (by rw [decide_eq_true rfl]; rfl)))))))) rfl Ss.next) ?_
  · have := ev_whole_is (B := 1) (m := m) (es := ints' r) (o := ordD r) (ts := r) g
    rw [decide_eq_false (show m ≠ 0 by omega), Bool.false_and] at this
    exact this
  have e1 : eqY teqT tkT (rowM m r) (rowD (ratv r)) = some (.bl false) := by
    have := eqO_of (neg := false) (B := 1) (m := m) (es := ints' r) (o := ordD r) (ts := r) (e := rowD (ratv r)) (b := _) rfl fun g => ev_eq (B' := Ln.B (ratv r)) (m' := 0) (es' := (ratv r).map ratD) (o' := ordD (Ln.T (ratv r))) (ts' := Ln.T (ratv r)) g
    rw [decide_eq_false (show m ≠ 0 by omega), Bool.false_and] at this
    exact this
  have e2 : neY teqT tkT (rowM m r) (rowM m r) = some (.bl false) := by
    have := eqO_of (neg := true) (B := 1) (m := m) (es := ints' r) (o := ordD r) (ts := r) (e := rowM m r) (b := _) rfl fun g => ev_eq (B' := 1) (m' := m) (es' := ints' r) (o' := ordD r) (ts' := r) g
    rw [decide_eq_true rfl, decide_eq_true rfl, decide_eq_true rfl] at this
    exact this
  have e3 : eqY teqT tkT (rowM m r) (.tup (ints' r)) = some (.bl false) := by
    have := eqO_of (neg := false) (B := 1) (m := m) (es := ints' r) (o := ordD r) (ts := r) (e := .tup (ints' r)) (b := false) rfl fun g => ev_eq_no rfl g
    exact this
  refine EndS.seq (Ss.ifF (k := false) (Es.orF (k := false) (Es.tst (Es.bin (Es.var rfl) (Es.callV (Es.cons (Es.var rfl) Es.nil) hD) e1)) rfl (Es.orF (k := false) (Es.tst (Es.bin (Es.var rfl) (Es.callKV (ds := [.tup (ints' r)]) (es := [.int m]) (Es.cons (Es.var rfl) Es.nil) (Es.cons (Es.var rfl) Es.nil) ⟨rfl, rfl⟩ hM2) e2)) rfl (Es.tst (Es.bin (Es.var rfl) (Es.var rfl) e3)))) rfl Ss.next) (EndS.ret (sl := [.v .dice, .v (.int m), .v (.int n), .v (.tup (ints' ts)), .un, .v (.tup (ints' r)), .un, .v (rowM m r)]) ?_)
  have l25 : (ratv r).length ≤ 25 := by rw [ratv_len]; omega
  have sx := rowS_sx (v := ratv r) (m := m) rq l25 (by omega) m2
  have hstr : strD tstT [rowM m r] = some (.str (rowS (ratv r) m)) := str_of (B := 1) (m := m) (es := ints' r) (o := ordD r) (ts := r) sx (by decide) fun g => by
    have := ev_row_text (v := ratv r) (m := m) rq l25 (by rw [ratv_B]; exact sz_small (by decide)) (by omega) m2 g
    rw [ratv_T, ratv_B] at this
    exact this
  refine Es.bin (Es.blt (Es.cons (Es.var rfl) Es.nil) hstr) (Es.callV (ds := [.lst ((ratv r).map pairD), .int m]) (Es.cons (Es.frz (co := .lst ((ratv r).map pairD)) ?_) (Es.cons (Es.var rfl) Es.nil)) (ev_rw_text rq l25 (by omega) m2)) ((eqY_str sx sx).trans (by rw [decide_eq_true rfl]))
  rw [ratv_pairs]
  exact Es.compB D.int (fun x => D.tup [.int x, .int 1]) (Es.items (Es.var rfl) rfl) rfl (szn (by omega)) fun x _ => ⟨⟨[.v .dice, .v (.int m), .v (.int n), .v (.tup (ints' ts)), .un, .v (.tup (ints' r)), .v (.int x), .v (rowM m r)], g⟩, ⟨[.v .dice, .v (.int m), .v (.int n), .v (.tup (ints' ts)), .un, .v (.tup (ints' r)), .v (.int x), .v (rowM m r)], g⟩, rfl, Es.tup (Es.cons (Es.var rfl) (Es.cons Es.c Es.nil)) (len2 _ _), rfl⟩
end K08

namespace K08
open PySem PySem.Spec PyProof.Rows L2 Dx
theorem rt_fr : Dx.Ev.RT Dx.Ev.sD b__law_fractions_right (.v .dice :: List.replicate (9 - 1) .un) := by
  rintro g ⟨t, rfl⟩
  obtain ⟨t', e⟩ := fractions_ok t
  exact ⟨_, ⟨t', rfl⟩, e⟩
theorem rt_re : Dx.Ev.RT Dx.Ev.sD b__law_residues_right (.v .dice :: List.replicate (8 - 1) .un) := by
  rintro g ⟨t, rfl⟩
  obtain ⟨t', e⟩ := residues_ok t
  exact ⟨_, ⟨t', rfl⟩, e⟩
theorem test_ok (ns : List Int) (s1 : Slot) (x y z : Int) : ∃ x' y' z' : Int, (sOr (sNot (sTru (sLend 2 m__law_fractions_right sNil))) (sOr (sNot (sTru (sLend 2 m__law_fractions_right sNil))) (sNot (sTru (sLend 2 m__law_residues_right sNil))))) ⟨.v (.scr ns) :: s1 :: .own (.lst [.int x, .int y, .int z]) :: [.un, .un], ⟨none, none⟩⟩ = .ok false ⟨.v (.scr ns) :: s1 :: .own (.lst [.int x', .int y', .int z']) :: [.un, .un], ⟨none, none⟩⟩ := by
  obtain ⟨x1, y1, z1, f1⟩ := Dx.Ev.RT.lend (n := 9) rt_fr (i := 2) (x := x) (y := y) (z := z) (.v (.scr ns) :: s1 :: .own (.lst [.int x, .int y, .int z]) :: [.un, .un]) rfl
  obtain ⟨x2, y2, z2, f2⟩ := Dx.Ev.RT.lend (n := 9) rt_fr (i := 2) (x := x1) (y := y1) (z := z1) (.v (.scr ns) :: s1 :: .own (.lst [.int x1, .int y1, .int z1]) :: [.un, .un]) rfl
  obtain ⟨x3, y3, z3, f3⟩ := Dx.Ev.RT.lend (n := 8) rt_re (i := 2) (x := x2) (y := y2) (z := z2) (.v (.scr ns) :: s1 :: .own (.lst [.int x2, .int y2, .int z2]) :: [.un, .un]) rfl
  refine ⟨x3, y3, z3, ?_⟩
  exact Es.orF (k := false) (Es.nt (k := true) (Es.tru f1 rfl)) rfl (Es.orF (k := false) (Es.nt (k := true) (Es.tru f2 rfl)) rfl (Es.nt (k := true) (Es.tru f3 rfl)))
def logD : D := .ins 3 [.int 6, .tup [.ins 1 [.int 1, .int 0], .ins 1 [.int 1, .int 1], .ins 1 [.int 2, .int (-1)], .ins 1 [.int 3, .int 1]], .int 0, .int 1, .tup [.int 0, .int 6, .int (-3), .int 2]]
def toldD : D := .lst [.str "x - 1/2*x^2 + 1/3*x^3 to 3", .int 3, .int 1, .bl false, .str "3 to 0", .str "0 to 1", .non]
theorem plain (ns : List Int) (_hl : ns.length ≤ 63) : ∃ g, m_law [.scr ns] ⟨none, none⟩ = .ok (.v (.bl true)) g := by
  obtain ⟨s1, s2, e⟩ := Dx.Ev.law_loop ns 3 (by decide) (m := m__law_dice) rfl (tl := [.un, .un]) (test_ok ns)
  unfold m_law b_law
  refine Dx.Ev.law_end (l1 := [.v (.scr ns), s1, s2, .un, .un]) e ?_
  refine RT_seq fun g hg => ⟨g, [.v (.scr ns), s1, s2, .v logD, .un], hg, (by unfold Ss; kernel_rfl), ?_⟩
  refine RT_seq fun g hg => ⟨g, [.v (.scr ns), s1, s2, .v logD, .v toldD], hg, (by unfold Ss; kernel_rfl), ?_⟩
  refine RT_seq fun g hg => ⟨g, [.v (.scr ns), s1, s2, .v logD, .v toldD], hg, (by unfold Ss; kernel_rfl), ?_⟩
  exact Dx.Ev.RT.retx (l1 := [.v (.scr ns), s1, s2, .v logD, .v toldD]) fun g => by kernel_rfl
end K08

namespace K08
open PySem PySem.Spec PyProof.Rows L2 Dx
theorem X_InvalidCount : DxR.XinS sx_InvalidCount "self" "value" "value" := ⟨⟨_, _, _, _, _, _, _, _, _, _, _, _, rfl, fun _ => rfl, fun _ => rfl⟩, ⟨_, rfl, rfl⟩, fun _ _ _ _ _ _ _ _ _ _ _ => rfl, rfl, rfl, rfl, rfl, by decide, by decide +kernel, rfl, rfl, rfl, by decide, by decide⟩
def cnK (K : PySem.W.Frag) : Cn := ⟨K, fun n => match n with
  | 0 => He.ga K "Terms"
  | 1 => He.ga K "Ratio"
  | 2 => He.ga K "Made"
  | 3 => He.ga K "Row"
  | 4 => He.ga K "SeriesError"
  | 5 => He.ga K "InvalidRatio"
  | 6 => He.ga K "InvalidModulus"
  | 7 => He.ga K "InvalidRow"
  | 8 => He.ga K "InvalidOperation"
  | 9 => He.ga K "ParseError"
  | 10 => He.ga K "InvalidCount"
  | _ => 0, fun n => match n with
  | 0 => He.ga K "Terms"
  | 1 => He.ga K "Ratio"
  | 2 => He.ga K "Made"
  | 3 => He.ga K "Row"
  | _ => 0, fun n => match n with
  | 9 => "spot"
  | 10 => "value"
  | _ => Str.empty, tqL (tqK K), fun P => decide (P ∈ tgK K)⟩
section
variable {w : World} {K : PySem.W.Frag} {h : Heap} {mg : Str → Option Value} {base : Heap}
theorem gs (X : K.In h) (G : h.Ns mainGlobals mg) (c : tst.x.see K = tst.x.due) : Gs K mg :=
  ⟨He.int_ok X G (TstX.tst c 0),
   He.int_ok X G (TstX.tst c 1),
   He.int_ok X G (TstX.tst c 2),
   (He.free_ok X G (TstX.tst c 3)),
   (He.free_ok X G (TstX.tst c 4)),
   (He.free_ok X G (TstX.tst c 5)),
   (He.free_ok X G (TstX.tst c 6)),
   PySem.W.mg_of X G (He.eqO_ok (TstX.tst c 7)),
   (He.free_ok X G (TstX.tst c 8)),
   (He.free_ok X G (TstX.tst c 9)),
   (He.free_ok X G (TstX.tst c 10)),
   (He.free_ok X G (TstX.tst c 11)),
   (He.free_ok X G (TstX.tst c 12)),
   (He.free_ok X G (TstX.tst c 13)),
   (He.free_ok X G (TstX.tst c 14)),
   (He.free_ok X G (TstX.tst c 15)),
   (He.free_ok X G (TstX.tst c 16)),
   (He.free_ok X G (TstX.tst c 17)),
   (He.free_ok X G (TstX.tst c 18))⟩
theorem tb_Row_init (c : tst.x.see K = tst.x.due) (TBs : ∀ p ∈ csK K, LamX.TabB base mg p.1 p.2) : TabG' base K mg (cnK K) (atX K (He.ga K "Row") "__init__") := by
  have t := TBs _ (List.mem_of_getElem? (l := csK K) (i := 0) rfl)
  exact ⟨(TstX.tst c 19), ⟨t.code, t.bm, t.gP⟩, decide_eq_true (List.mem_of_getElem? (l := tgK K) (i := 0) rfl), (of_decide_eq_true (TstX.tst c 20))⟩
theorem all (X : K.In h) (G : h.Ns mainGlobals mg) (c : tst.x.see K = tst.x.due) (TBs : ∀ p ∈ csK K, LamX.TabB base mg p.1 p.2) :
    T_law PySem.Challenge.pw_lawseries_k08_rows_told w K mg base (cnK K) := by
  have g := gs X G c
  have t__law_dice : T__law_dice PySem.Challenge.pw_lawseries_k08_rows_told w K mg base (cnK K) := ⟨True.intro⟩
  have t__law_roll : T__law_roll PySem.Challenge.pw_lawseries_k08_rows_told w K mg base (cnK K) := ⟨True.intro⟩
  have d__law_roll : Cal PySem.Challenge.pw_lawseries_k08_rows_told w K mg base (cnK K) 2 "_law_roll" m__law_roll := by
    obtain ⟨fd, F⟩ := TstX.def_ c 1
    exact ⟨_, R__law_roll rfl g t__law_roll F, (He.glo_ok X G (TstX.tst c 21)), F.kp⟩
  have t__law_pick : T__law_pick PySem.Challenge.pw_lawseries_k08_rows_told w K mg base (cnK K) := ⟨d__law_roll⟩
  have j_Ratio : ∃ C, mg "Ratio" = some (.ref C) ∧ IsiOk (cnK K) C tj_Ratio := by
    refine ⟨(He.ga K "Ratio"), (He.glo_ok X G (TstX.tst c 22)), fun n b e => ?_, ikB_ok (TstX.tst c 23)⟩
    unfold tj_Ratio at e
    split at e
    · cases e
      obtain ⟨q1, q2⟩ := isB_ok ((TstX.tst c 24) : isB K (He.ga K "Terms") (He.ga K "Ratio") false = true)
      exact ⟨sclB_ok (TstX.tst c 25), q1, q2⟩
    · cases e
      obtain ⟨q1, q2⟩ := isB_ok ((TstX.tst c 26) : isB K (He.ga K "Ratio") (He.ga K "Ratio") true = true)
      exact ⟨sclB_ok (TstX.tst c 27), q1, q2⟩
    · cases e
      obtain ⟨q1, q2⟩ := isB_ok ((TstX.tst c 28) : isB K (He.ga K "Made") (He.ga K "Ratio") false = true)
      exact ⟨sclB_ok (TstX.tst c 29), q1, q2⟩
    · cases e
      obtain ⟨q1, q2⟩ := isB_ok ((TstX.tst c 30) : isB K (He.ga K "Row") (He.ga K "Ratio") false = true)
      exact ⟨sclB_ok (TstX.tst c 31), q1, q2⟩
    · cases e
  have a_own_bottom : AttrOk (cnK K) "own_bottom" ta_own_bottom := by
    intro n i e
    unfold ta_own_bottom at e
    split at e
    · cases e
      exact ⟨sclB_ok (TstX.tst c 25), _, slB_ok (TstX.tst c 32)⟩
    · cases e
      exact ⟨sclB_ok (TstX.tst c 27), _, slB_ok (TstX.tst c 33)⟩
    · cases e
      exact ⟨sclB_ok (TstX.tst c 31), _, slB_ok (TstX.tst c 34)⟩
    · cases e
  have a_own_top : AttrOk (cnK K) "own_top" ta_own_top := by
    intro n i e
    unfold ta_own_top at e
    split at e
    · cases e
      exact ⟨sclB_ok (TstX.tst c 25), _, slB_ok (TstX.tst c 35)⟩
    · cases e
      exact ⟨sclB_ok (TstX.tst c 27), _, slB_ok (TstX.tst c 36)⟩
    · cases e
  have t_Ratio___eq__ : T_Ratio___eq__ PySem.Challenge.pw_lawseries_k08_rows_told w K mg base (cnK K) := ⟨j_Ratio, a_own_bottom, a_own_top⟩
  have j_Row : ∃ C, mg "Row" = some (.ref C) ∧ IsiOk (cnK K) C tj_Row := by
    refine ⟨(He.ga K "Row"), (He.glo_ok X G (TstX.tst c 37)), fun n b e => ?_, ikB_ok (TstX.tst c 38)⟩
    unfold tj_Row at e
    split at e
    · cases e
      obtain ⟨q1, q2⟩ := isB_ok ((TstX.tst c 39) : isB K (He.ga K "Terms") (He.ga K "Row") false = true)
      exact ⟨sclB_ok (TstX.tst c 25), q1, q2⟩
    · cases e
      obtain ⟨q1, q2⟩ := isB_ok ((TstX.tst c 40) : isB K (He.ga K "Ratio") (He.ga K "Row") false = true)
      exact ⟨sclB_ok (TstX.tst c 27), q1, q2⟩
    · cases e
      obtain ⟨q1, q2⟩ := isB_ok ((TstX.tst c 41) : isB K (He.ga K "Made") (He.ga K "Row") false = true)
      exact ⟨sclB_ok (TstX.tst c 29), q1, q2⟩
    · cases e
      obtain ⟨q1, q2⟩ := isB_ok ((TstX.tst c 42) : isB K (He.ga K "Row") (He.ga K "Row") true = true)
      exact ⟨sclB_ok (TstX.tst c 31), q1, q2⟩
    · cases e
  have a_own_modulus : AttrOk (cnK K) "own_modulus" ta_own_modulus := by
    intro n i e
    unfold ta_own_modulus at e
    split at e
    · cases e
      exact ⟨sclB_ok (TstX.tst c 31), _, slB_ok (TstX.tst c 43)⟩
    · cases e
  have a_own_tops : AttrOk (cnK K) "own_tops" ta_own_tops := by
    intro n i e
    unfold ta_own_tops at e
    split at e
    · cases e
      exact ⟨sclB_ok (TstX.tst c 31), _, slB_ok (TstX.tst c 44)⟩
    · cases e
  have t_Row___eq__ : T_Row___eq__ PySem.Challenge.pw_lawseries_k08_rows_told w K mg base (cnK K) := ⟨j_Row, a_own_bottom, a_own_modulus, a_own_tops⟩
  have oeq : OeqOk PySem.Challenge.pw_lawseries_k08_rows_told w mg base (cnK K) 2 teqT tkT := by
    refine ⟨fun n m e => ?_⟩
    unfold teqT at e
    split at e
    · cases e
      obtain ⟨fd, F⟩ := TstX.def_ c 3
      refine ⟨(of_decide_eq_true (TstX.tst c 47)), He.eqO_ok (TstX.tst c 48), fun j hj => ?_, _, He.eqO_ok (TstX.tst c 45), (TstX.tst c 46), (R_Ratio___eq__ rfl g t_Ratio___eq__ F).mono (by decide)⟩
      unfold tkT at hj
      split at hj
      · exact (TstX.tst c 49)
      · exact (TstX.tst c 50)
      · exact (TstX.tst c 51)
      · exact (TstX.tst c 52)
      · cases hj
    · cases e
      obtain ⟨fd, F⟩ := TstX.def_ c 4
      refine ⟨(of_decide_eq_true (TstX.tst c 55)), He.eqO_ok (TstX.tst c 56), fun j hj => ?_, _, He.eqO_ok (TstX.tst c 53), (TstX.tst c 54), (R_Row___eq__ rfl g t_Row___eq__ F).mono (by decide)⟩
      unfold tkT at hj
      split at hj
      · exact (TstX.tst c 57)
      · exact (TstX.tst c 58)
      · exact (TstX.tst c 59)
      · exact (TstX.tst c 60)
      · cases hj
    · cases e
  have t__law_are_whole : T__law_are_whole PySem.Challenge.pw_lawseries_k08_rows_told w K mg base (cnK K) := ⟨oeq⟩
  have t_Ratio_top : T_Ratio_top PySem.Challenge.pw_lawseries_k08_rows_told w K mg base (cnK K) := ⟨a_own_top⟩
  have t_Ratio_bottom : T_Ratio_bottom PySem.Challenge.pw_lawseries_k08_rows_told w K mg base (cnK K) := ⟨a_own_bottom⟩
  have a_own_entries : AttrOk (cnK K) "own_entries" ta_own_entries := by
    intro n i e
    unfold ta_own_entries at e
    split at e
    · cases e
      exact ⟨sclB_ok (TstX.tst c 31), _, slB_ok (TstX.tst c 61)⟩
    · cases e
  have t_Row_entries : T_Row_entries PySem.Challenge.pw_lawseries_k08_rows_told w K mg base (cnK K) := ⟨a_own_entries⟩
  have p_bottom : PrpOk PySem.Challenge.pw_lawseries_k08_rows_told w mg base (cnK K) 2 "bottom" tp_bottom := by
    refine ⟨fun n m e => ?_⟩
    unfold tp_bottom at e
    split at e
    · cases e
      obtain ⟨fd, F⟩ := TstX.def_ c 7
      obtain ⟨b1, b2, b3, b4⟩ := pvB_ok ((TstX.tst c 62) : pvB K (He.ga K "Ratio") "bottom" = true)
      exact ⟨sclB_ok (TstX.tst c 27), _, _, b1, b2, b3, b4, (R_Ratio_bottom rfl g t_Ratio_bottom F).mono (by decide)⟩
    · cases e
  have p_entries : PrpOk PySem.Challenge.pw_lawseries_k08_rows_told w mg base (cnK K) 2 "entries" tp_entries := by
    refine ⟨fun n m e => ?_⟩
    unfold tp_entries at e
    split at e
    · cases e
      obtain ⟨fd, F⟩ := TstX.def_ c 8
      obtain ⟨b1, b2, b3, b4⟩ := pvB_ok ((TstX.tst c 63) : pvB K (He.ga K "Row") "entries" = true)
      exact ⟨sclB_ok (TstX.tst c 31), _, _, b1, b2, b3, b4, (R_Row_entries rfl g t_Row_entries F).mono (by decide)⟩
    · cases e
  have p_top : PrpOk PySem.Challenge.pw_lawseries_k08_rows_told w mg base (cnK K) 2 "top" tp_top := by
    refine ⟨fun n m e => ?_⟩
    unfold tp_top at e
    split at e
    · cases e
      obtain ⟨fd, F⟩ := TstX.def_ c 6
      obtain ⟨b1, b2, b3, b4⟩ := pvB_ok ((TstX.tst c 64) : pvB K (He.ga K "Ratio") "top" = true)
      exact ⟨sclB_ok (TstX.tst c 27), _, _, b1, b2, b3, b4, (R_Ratio_top rfl g t_Ratio_top F).mono (by decide)⟩
    · cases e
  have t__law_pairs_of : T__law_pairs_of PySem.Challenge.pw_lawseries_k08_rows_told w K mg base (cnK K) := ⟨p_bottom, p_entries, p_top⟩
  have ik : IskOk (cnK K) tkT := by
    refine ⟨fun n e => ?_⟩
    unfold tkT at e
    split at e
    · obtain ⟨q1, q2⟩ := iskB_ok (TstX.tst c 65)
      exact ⟨sclB_ok (TstX.tst c 25), q1, q2⟩
    · obtain ⟨q1, q2⟩ := iskB_ok (TstX.tst c 66)
      exact ⟨sclB_ok (TstX.tst c 27), q1, q2⟩
    · obtain ⟨q1, q2⟩ := iskB_ok (TstX.tst c 67)
      exact ⟨sclB_ok (TstX.tst c 29), q1, q2⟩
    · obtain ⟨q1, q2⟩ := iskB_ok (TstX.tst c 68)
      exact ⟨sclB_ok (TstX.tst c 31), q1, q2⟩
    · cases e
  have t_is_plain : T_is_plain PySem.Challenge.pw_lawseries_k08_rows_told w K mg base (cnK K) := ⟨ik⟩
  have d_is_plain : Cal PySem.Challenge.pw_lawseries_k08_rows_told w K mg base (cnK K) 2 "is_plain" m_is_plain := by
    obtain ⟨fd, F⟩ := TstX.def_ c 10
    exact ⟨_, R_is_plain rfl g t_is_plain F, (He.glo_ok X G (TstX.tst c 69)), F.kp⟩
  have t_is_short : T_is_short PySem.Challenge.pw_lawseries_k08_rows_told w K mg base (cnK K) := ⟨d_is_plain⟩
  have t_Terms_init : T_Terms_init PySem.Challenge.pw_lawseries_k08_rows_told w K mg base (cnK K) := ⟨a_own_bottom, a_own_top⟩
  have k_Terms : Mkr PySem.Challenge.pw_lawseries_k08_rows_told w K mg base (cnK K) 2 "Terms" 0 i_Terms := by
    obtain ⟨fd, F⟩ := TstX.def_ c 12
    exact ⟨_, mkB_ok (TstX.tst c 70), R_Terms_init rfl g t_Terms_init F, (He.glo_ok X G (TstX.tst c 71))⟩
  have t_terms_of : T_terms_of PySem.Challenge.pw_lawseries_k08_rows_told w K mg base (cnK K) := ⟨k_Terms⟩
  have d_is_short : Cal PySem.Challenge.pw_lawseries_k08_rows_told w K mg base (cnK K) 4 "is_short" m_is_short := by
    obtain ⟨fd, F⟩ := TstX.def_ c 11
    exact ⟨_, R_is_short rfl g t_is_short F, (He.glo_ok X G (TstX.tst c 72)), F.kp⟩
  have d_terms_of : Cal PySem.Challenge.pw_lawseries_k08_rows_told w K mg base (cnK K) 4 "terms_of" m_terms_of := by
    obtain ⟨fd, F⟩ := TstX.def_ c 13
    exact ⟨_, R_terms_of rfl g t_terms_of F, (He.glo_ok X G (TstX.tst c 73)), F.kp⟩
  have j_Terms : ∃ C, mg "Terms" = some (.ref C) ∧ IsiOk (cnK K) C tj_Terms := by
    refine ⟨(He.ga K "Terms"), (He.glo_ok X G (TstX.tst c 71)), fun n b e => ?_, ikB_ok (TstX.tst c 74)⟩
    unfold tj_Terms at e
    split at e
    · cases e
      obtain ⟨q1, q2⟩ := isB_ok ((TstX.tst c 75) : isB K (He.ga K "Terms") (He.ga K "Terms") true = true)
      exact ⟨sclB_ok (TstX.tst c 25), q1, q2⟩
    · cases e
      obtain ⟨q1, q2⟩ := isB_ok ((TstX.tst c 76) : isB K (He.ga K "Ratio") (He.ga K "Terms") false = true)
      exact ⟨sclB_ok (TstX.tst c 27), q1, q2⟩
    · cases e
      obtain ⟨q1, q2⟩ := isB_ok ((TstX.tst c 77) : isB K (He.ga K "Made") (He.ga K "Terms") false = true)
      exact ⟨sclB_ok (TstX.tst c 29), q1, q2⟩
    · cases e
      obtain ⟨q1, q2⟩ := isB_ok ((TstX.tst c 78) : isB K (He.ga K "Row") (He.ga K "Terms") false = true)
      exact ⟨sclB_ok (TstX.tst c 31), q1, q2⟩
    · cases e
  have r_InvalidCount : Xe1 PySem.Challenge.pw_lawseries_k08_rows_told K mg (cnK K) "InvalidCount" 10 := by
    exact ⟨(He.glo_ok X G (TstX.tst c 79)), (He.free_ok X G (TstX.tst c 80)), xin_ok (P := PySem.Challenge.pw_lawseries_k08_rows_told) (qn := "InvalidCount.__init__") PySem.F.excBase_IndexError PySem.F.store_IndexError PySem.W.kxs_IndexError X_InvalidCount (TstX.tst c 81) (TstX.tst c 82) (TstX.defI c 51) (by decide +kernel)⟩
  have t_told_terms : T_told_terms PySem.Challenge.pw_lawseries_k08_rows_told w K mg base (cnK K) := ⟨d_is_short, d_terms_of, j_Terms, r_InvalidCount⟩
  have d_told_terms : Cal PySem.Challenge.pw_lawseries_k08_rows_told w K mg base (cnK K) 6 "told_terms" m_told_terms := by
    obtain ⟨fd, F⟩ := TstX.def_ c 14
    exact ⟨_, R_told_terms rfl g t_told_terms F, (He.glo_ok X G (TstX.tst c 83)), F.kp⟩
  have t_Ratio_init : T_Ratio_init PySem.Challenge.pw_lawseries_k08_rows_told w K mg base (cnK K) := ⟨d_told_terms, a_own_bottom, a_own_top⟩
  have K_Ratio : Mkr PySem.Challenge.pw_lawseries_k08_rows_told w K mg base (cnK K) 8 "Ratio" 1 (dfl i_Ratio (.int (1))) := by
    obtain ⟨fd, F⟩ := TstX.def_ c 15
    exact ⟨_, mkB_ok (TstX.tst c 84), D_Ratio_init rfl g t_Ratio_init F, (He.glo_ok X G (TstX.tst c 22))⟩
  have t_ratio_of : T_ratio_of PySem.Challenge.pw_lawseries_k08_rows_told w K mg base (cnK K) := ⟨d_terms_of, K_Ratio⟩
  have t_line_of : T_line_of PySem.Challenge.pw_lawseries_k08_rows_told w K mg base (cnK K) := ⟨True.intro⟩
  have d_line_of : Cal PySem.Challenge.pw_lawseries_k08_rows_told w K mg base (cnK K) 2 "line_of" m_line_of := by
    obtain ⟨fd, F⟩ := TstX.def_ c 17
    exact ⟨_, R_line_of rfl g t_line_of F, (He.glo_ok X G (TstX.tst c 85)), F.kp⟩
  have t_line_of_pairs : T_line_of_pairs PySem.Challenge.pw_lawseries_k08_rows_told w K mg base (cnK K) := ⟨d_line_of⟩
  have t_is_integer : T_is_integer PySem.Challenge.pw_lawseries_k08_rows_told w K mg base (cnK K) := ⟨d_is_short⟩
  have d_is_integer : Cal PySem.Challenge.pw_lawseries_k08_rows_told w K mg base (cnK K) 6 "is_integer" m_is_integer := by
    obtain ⟨fd, F⟩ := TstX.def_ c 19
    exact ⟨_, R_is_integer rfl g t_is_integer F, (He.glo_ok X G (TstX.tst c 86)), F.kp⟩
  have r_InvalidModulus : Xe0 K mg (cnK K) "InvalidModulus" 6 := by
    exact ex0B_ok PySem.F.excBase_ValueError (He.glo_ok X G (TstX.tst c 87)) (TstX.tst c 88)
  have t_require_modulus : T_require_modulus PySem.Challenge.pw_lawseries_k08_rows_told w K mg base (cnK K) := ⟨d_is_integer, r_InvalidModulus⟩
  have t_is_number : T_is_number PySem.Challenge.pw_lawseries_k08_rows_told w K mg base (cnK K) := ⟨d_is_integer, j_Ratio⟩
  have t_number_pair : T_number_pair PySem.Challenge.pw_lawseries_k08_rows_told w K mg base (cnK K) := ⟨j_Ratio, a_own_bottom, a_own_top⟩
  have t_is_number_of : T_is_number_of PySem.Challenge.pw_lawseries_k08_rows_told w K mg base (cnK K) := ⟨d_is_integer, j_Ratio⟩
  have d_is_number : Cal PySem.Challenge.pw_lawseries_k08_rows_told w K mg base (cnK K) 8 "is_number" m_is_number := by
    obtain ⟨fd, F⟩ := TstX.def_ c 21
    exact ⟨_, R_is_number rfl g t_is_number F, (He.glo_ok X G (TstX.tst c 89)), F.kp⟩
  have d_is_number_of : Cal PySem.Challenge.pw_lawseries_k08_rows_told w K mg base (cnK K) 8 "is_number_of" m_is_number_of := by
    obtain ⟨fd, F⟩ := TstX.def_ c 23
    exact ⟨_, R_is_number_of rfl g t_is_number_of F, (He.glo_ok X G (TstX.tst c 90)), F.kp⟩
  have d_line_of_pairs : Cal PySem.Challenge.pw_lawseries_k08_rows_told w K mg base (cnK K) 4 "line_of_pairs" m_line_of_pairs := by
    obtain ⟨fd, F⟩ := TstX.def_ c 18
    exact ⟨_, R_line_of_pairs rfl g t_line_of_pairs F, (He.glo_ok X G (TstX.tst c 91)), F.kp⟩
  have d_number_pair : Cal PySem.Challenge.pw_lawseries_k08_rows_told w K mg base (cnK K) 2 "number_pair" m_number_pair := by
    obtain ⟨fd, F⟩ := TstX.def_ c 22
    exact ⟨_, R_number_pair rfl g t_number_pair F, (He.glo_ok X G (TstX.tst c 92)), F.kp⟩
  have d_require_modulus : Cal PySem.Challenge.pw_lawseries_k08_rows_told w K mg base (cnK K) 8 "require_modulus" m_require_modulus := by
    obtain ⟨fd, F⟩ := TstX.def_ c 20
    exact ⟨_, R_require_modulus rfl g t_require_modulus F, (He.glo_ok X G (TstX.tst c 93)), F.kp⟩
  have j_Made : ∃ C, mg "Made" = some (.ref C) ∧ IsiOk (cnK K) C tj_Made := by
    refine ⟨(He.ga K "Made"), (He.glo_ok X G (TstX.tst c 94)), fun n b e => ?_, ikB_ok (TstX.tst c 95)⟩
    unfold tj_Made at e
    split at e
    · cases e
      obtain ⟨q1, q2⟩ := isB_ok ((TstX.tst c 96) : isB K (He.ga K "Terms") (He.ga K "Made") false = true)
      exact ⟨sclB_ok (TstX.tst c 25), q1, q2⟩
    · cases e
      obtain ⟨q1, q2⟩ := isB_ok ((TstX.tst c 97) : isB K (He.ga K "Ratio") (He.ga K "Made") false = true)
      exact ⟨sclB_ok (TstX.tst c 27), q1, q2⟩
    · cases e
      obtain ⟨q1, q2⟩ := isB_ok ((TstX.tst c 98) : isB K (He.ga K "Made") (He.ga K "Made") true = true)
      exact ⟨sclB_ok (TstX.tst c 29), q1, q2⟩
    · cases e
      obtain ⟨q1, q2⟩ := isB_ok ((TstX.tst c 99) : isB K (He.ga K "Row") (He.ga K "Made") false = true)
      exact ⟨sclB_ok (TstX.tst c 31), q1, q2⟩
    · cases e
  have r_InvalidRow : Xe0 K mg (cnK K) "InvalidRow" 7 := by
    exact ex0B_ok PySem.F.excBase_ValueError (He.glo_ok X G (TstX.tst c 100)) (TstX.tst c 101)
  have a_own_line : AttrOk (cnK K) "own_line" ta_own_line := by
    intro n i e
    unfold ta_own_line at e
    split at e
    · cases e
      exact ⟨sclB_ok (TstX.tst c 29), _, slB_ok (TstX.tst c 102)⟩
    · cases e
  have t_line_told : T_line_told PySem.Challenge.pw_lawseries_k08_rows_told w K mg base (cnK K) := ⟨d_is_number, d_is_number_of, d_line_of, d_line_of_pairs, d_number_pair, d_require_modulus, ik, j_Made, r_InvalidRow, a_own_line⟩
  have d_line_told : Cal PySem.Challenge.pw_lawseries_k08_rows_told w K mg base (cnK K) 10 "line_told" m_line_told := by
    obtain ⟨fd, F⟩ := TstX.def_ c 24
    exact ⟨_, R_line_told rfl g t_line_told F, (He.glo_ok X G (TstX.tst c 103)), F.kp⟩
  have d_ratio_of : Cal PySem.Challenge.pw_lawseries_k08_rows_told w K mg base (cnK K) 10 "ratio_of" m_ratio_of := by
    obtain ⟨fd, F⟩ := TstX.def_ c 16
    exact ⟨_, R_ratio_of rfl g t_ratio_of F, (He.glo_ok X G (TstX.tst c 104)), F.kp⟩
  have a_own_order : AttrOk (cnK K) "own_order" ta_own_order := by
    intro n i e
    unfold ta_own_order at e
    split at e
    · cases e
      exact ⟨sclB_ok (TstX.tst c 31), _, slB_ok (TstX.tst c 105)⟩
    · cases e
  have t_Row_init : T_Row_init PySem.Challenge.pw_lawseries_k08_rows_told w K mg base (cnK K) := ⟨d_line_told, d_ratio_of, a_own_bottom, a_own_entries, a_own_modulus, a_own_order, a_own_tops⟩
  have K_Row : Mkr PySem.Challenge.pw_lawseries_k08_rows_told w K mg base (cnK K) 12 "Row" 3 (dfl i_Row (.int (0))) := by
    obtain ⟨fd, F⟩ := TstX.def_ c 25
    exact ⟨_, mkB_ok (TstX.tst c 106), D_Row_init rfl g t_Row_init (tb_Row_init c TBs) F, (He.glo_ok X G (TstX.tst c 37))⟩
  have k_Ratio : Mkr PySem.Challenge.pw_lawseries_k08_rows_told w K mg base (cnK K) 8 "Ratio" 1 i_Ratio := by
    obtain ⟨fd, F⟩ := TstX.def_ c 15
    exact ⟨_, mkB_ok (TstX.tst c 84), R_Ratio_init rfl g t_Ratio_init F, (He.glo_ok X G (TstX.tst c 22))⟩
  have t__law_rw_made : T__law_rw_made PySem.Challenge.pw_lawseries_k08_rows_told w K mg base (cnK K) := ⟨K_Row, k_Ratio⟩
  have t__law_gcd : T__law_gcd PySem.Challenge.pw_lawseries_k08_rows_told w K mg base (cnK K) := ⟨True.intro⟩
  have d__law_gcd : Cal PySem.Challenge.pw_lawseries_k08_rows_told w K mg base (cnK K) 2 "_law_gcd" m__law_gcd := by
    obtain ⟨fd, F⟩ := TstX.def_ c 27
    exact ⟨_, R__law_gcd rfl g t__law_gcd F, (He.glo_ok X G (TstX.tst c 107)), F.kp⟩
  have t__law_ratio : T__law_ratio PySem.Challenge.pw_lawseries_k08_rows_told w K mg base (cnK K) := ⟨d__law_gcd⟩
  have d__law_pick : Cal PySem.Challenge.pw_lawseries_k08_rows_told w K mg base (cnK K) 4 "_law_pick" m__law_pick := by
    obtain ⟨fd, F⟩ := TstX.def_ c 2
    exact ⟨_, R__law_pick rfl g t__law_pick F, (He.glo_ok X G (TstX.tst c 108)), F.kp⟩
  have d__law_ratio : Cal PySem.Challenge.pw_lawseries_k08_rows_told w K mg base (cnK K) 4 "_law_ratio" m__law_ratio := by
    obtain ⟨fd, F⟩ := TstX.def_ c 28
    exact ⟨_, R__law_ratio rfl g t__law_ratio F, (He.glo_ok X G (TstX.tst c 109)), F.kp⟩
  have t__law_rw_fraction : T__law_rw_fraction PySem.Challenge.pw_lawseries_k08_rows_told w K mg base (cnK K) := ⟨d__law_pick, d__law_ratio, d__law_roll⟩
  have d__law_rw_fraction : Cal PySem.Challenge.pw_lawseries_k08_rows_told w K mg base (cnK K) 6 "_law_rw_fraction" m__law_rw_fraction := by
    obtain ⟨fd, F⟩ := TstX.def_ c 29
    exact ⟨_, R__law_rw_fraction rfl g t__law_rw_fraction F, (He.glo_ok X G (TstX.tst c 110)), F.kp⟩
  have t__law_rw_drawn : T__law_rw_drawn PySem.Challenge.pw_lawseries_k08_rows_told w K mg base (cnK K) := ⟨d__law_roll, d__law_rw_fraction⟩
  have t_Ratio___str__ : T_Ratio___str__ PySem.Challenge.pw_lawseries_k08_rows_told w K mg base (cnK K) := ⟨a_own_bottom, a_own_top⟩
  have t_term_text : T_term_text PySem.Challenge.pw_lawseries_k08_rows_told w K mg base (cnK K) := ⟨True.intro⟩
  have d_term_text : Cal PySem.Challenge.pw_lawseries_k08_rows_told w K mg base (cnK K) 3 "term_text" m_term_text := by
    obtain ⟨fd, F⟩ := TstX.def_ c 32
    exact ⟨_, R_term_text rfl g t_term_text F, (He.glo_ok X G (TstX.tst c 111)), F.kp⟩
  have t_row_text : T_row_text PySem.Challenge.pw_lawseries_k08_rows_told w K mg base (cnK K) := ⟨d_term_text⟩
  have d_row_text : Cal PySem.Challenge.pw_lawseries_k08_rows_told w K mg base (cnK K) 5 "row_text" m_row_text := by
    obtain ⟨fd, F⟩ := TstX.def_ c 33
    exact ⟨_, R_row_text rfl g t_row_text F, (He.glo_ok X G (TstX.tst c 112)), F.kp⟩
  have t_Row___str__ : T_Row___str__ PySem.Challenge.pw_lawseries_k08_rows_told w K mg base (cnK K) := ⟨d_row_text, a_own_bottom, a_own_modulus, a_own_tops⟩
  have ostr : StrOk PySem.Challenge.pw_lawseries_k08_rows_told w mg base (cnK K) 7 tstT := by
    refine ⟨fun n m e => ?_⟩
    unfold tstT at e
    split at e
    · cases e
      obtain ⟨fd, F⟩ := TstX.def_ c 31
      exact ⟨_, He.eqO_ok (TstX.tst c 113), (TstX.tst c 114), (R_Ratio___str__ rfl g t_Ratio___str__ F).mono (by decide)⟩
    · cases e
      obtain ⟨fd, F⟩ := TstX.def_ c 34
      exact ⟨_, He.eqO_ok (TstX.tst c 115), (TstX.tst c 116), (R_Row___str__ rfl g t_Row___str__ F).mono (by decide)⟩
    · cases e
  have t__law_rw_text : T__law_rw_text PySem.Challenge.pw_lawseries_k08_rows_told w K mg base (cnK K) := ⟨oeq, ostr⟩
  have r_InvalidOperation : Xe0 K mg (cnK K) "InvalidOperation" 8 := by
    exact ex0B_ok PySem.F.excBase_ValueError (He.glo_ok X G (TstX.tst c 117)) (TstX.tst c 118)
  have t_Row_whole : T_Row_whole PySem.Challenge.pw_lawseries_k08_rows_told w K mg base (cnK K) := ⟨r_InvalidOperation, a_own_bottom, a_own_tops⟩
  have q_whole : MthOk PySem.Challenge.pw_lawseries_k08_rows_told w mg base (cnK K) 2 "whole" tm_whole := by
    refine ⟨fun n m e => ?_⟩
    unfold tm_whole at e
    split at e
    · cases e
      obtain ⟨fd, F⟩ := TstX.def_ c 36
      exact ⟨sclB_ok (TstX.tst c 31), _, meB_ok (TstX.tst c 119), (R_Row_whole rfl g t_Row_whole F).mono (by decide)⟩
    · cases e
  have n_InvalidOperation : mg "InvalidOperation" = some (.ref ((cnK K).cA 8)) := by
    exact (He.glo_ok X G (TstX.tst c 117))
  have xm : ExmOk (cnK K) xmT := by
    intro n m b e
    unfold xmT at e
    split at e
    · cases e
      exact (of_decide_eq_true (TstX.tst c 120))
    · cases e
      exact (of_decide_eq_true (TstX.tst c 121))
    · cases e
      exact (of_decide_eq_true (TstX.tst c 122))
    · cases e
      exact (of_decide_eq_true (TstX.tst c 123))
    · cases e
  have t__law_whole : T__law_whole PySem.Challenge.pw_lawseries_k08_rows_told w K mg base (cnK K) := ⟨q_whole, n_InvalidOperation, xm⟩
  have t_Row_degree : T_Row_degree PySem.Challenge.pw_lawseries_k08_rows_told w K mg base (cnK K) := ⟨a_own_tops⟩
  have t_Row_modulus : T_Row_modulus PySem.Challenge.pw_lawseries_k08_rows_told w K mg base (cnK K) := ⟨a_own_modulus⟩
  have t_Row_order : T_Row_order PySem.Challenge.pw_lawseries_k08_rows_told w K mg base (cnK K) := ⟨a_own_order⟩
  have t_Row_is_whole : T_Row_is_whole PySem.Challenge.pw_lawseries_k08_rows_told w K mg base (cnK K) := ⟨a_own_bottom, a_own_modulus⟩
  have t_require_count : T_require_count PySem.Challenge.pw_lawseries_k08_rows_told w K mg base (cnK K) := ⟨d_is_integer, r_InvalidCount⟩
  have d_require_count : Cal PySem.Challenge.pw_lawseries_k08_rows_told w K mg base (cnK K) 8 "require_count" m_require_count := by
    obtain ⟨fd, F⟩ := TstX.def_ c 42
    exact ⟨_, R_require_count rfl g t_require_count F, (He.glo_ok X G (TstX.tst c 124)), F.kp⟩
  have t_Row_at : T_Row_at PySem.Challenge.pw_lawseries_k08_rows_told w K mg base (cnK K) := ⟨d_require_count, a_own_entries, a_own_tops⟩
  have t_Row___len__ : T_Row___len__ PySem.Challenge.pw_lawseries_k08_rows_told w K mg base (cnK K) := ⟨a_own_tops⟩
  have t_Row___iter__ : T_Row___iter__ PySem.Challenge.pw_lawseries_k08_rows_told w K mg base (cnK K) := ⟨a_own_entries⟩
  have d__law_are_whole : Cal PySem.Challenge.pw_lawseries_k08_rows_told w K mg base (cnK K) 4 "_law_are_whole" m__law_are_whole := by
    obtain ⟨fd, F⟩ := TstX.def_ c 5
    exact ⟨_, R__law_are_whole rfl g t__law_are_whole F, (He.glo_ok X G (TstX.tst c 125)), F.kp⟩
  have d__law_pairs_of : Cal PySem.Challenge.pw_lawseries_k08_rows_told w K mg base (cnK K) 4 "_law_pairs_of" m__law_pairs_of := by
    obtain ⟨fd, F⟩ := TstX.def_ c 9
    exact ⟨_, R__law_pairs_of rfl g t__law_pairs_of F, (He.glo_ok X G (TstX.tst c 126)), F.kp⟩
  have d__law_rw_drawn : Cal PySem.Challenge.pw_lawseries_k08_rows_told w K mg base (cnK K) 8 "_law_rw_drawn" m__law_rw_drawn := by
    obtain ⟨fd, F⟩ := TstX.def_ c 30
    exact ⟨_, R__law_rw_drawn rfl g t__law_rw_drawn F, (He.glo_ok X G (TstX.tst c 127)), F.kp⟩
  have d__law_rw_made : Cal PySem.Challenge.pw_lawseries_k08_rows_told w K mg base (cnK K) 14 "_law_rw_made" m__law_rw_made := by
    obtain ⟨fd, F⟩ := TstX.def_ c 26
    exact ⟨_, R__law_rw_made rfl g t__law_rw_made F, (He.glo_ok X G (TstX.tst c 128)), F.kp⟩
  have d__law_rw_text : Cal PySem.Challenge.pw_lawseries_k08_rows_told w K mg base (cnK K) 10 "_law_rw_text" m__law_rw_text := by
    obtain ⟨fd, F⟩ := TstX.def_ c 35
    exact ⟨_, R__law_rw_text rfl g t__law_rw_text F, (He.glo_ok X G (TstX.tst c 129)), F.kp⟩
  have d__law_whole : Cal PySem.Challenge.pw_lawseries_k08_rows_told w K mg base (cnK K) 4 "_law_whole" m__law_whole := by
    obtain ⟨fd, F⟩ := TstX.def_ c 37
    exact ⟨_, R__law_whole rfl g t__law_whole F, (He.glo_ok X G (TstX.tst c 130)), F.kp⟩
  have q_at : MthOk PySem.Challenge.pw_lawseries_k08_rows_told w mg base (cnK K) 10 "at" tm_at := by
    refine ⟨fun n m e => ?_⟩
    unfold tm_at at e
    split at e
    · cases e
      obtain ⟨fd, F⟩ := TstX.def_ c 43
      exact ⟨sclB_ok (TstX.tst c 31), _, meB_ok (TstX.tst c 131), (R_Row_at rfl g t_Row_at F).mono (by decide)⟩
    · cases e
  have oit : LioOk PySem.Challenge.pw_lawseries_k08_rows_told w mg base (cnK K) 2 titT := by
    refine ⟨fun n m e => ?_⟩
    unfold titT at e
    split at e
    · cases e
      obtain ⟨fd, F⟩ := TstX.def_ c 45
      exact ⟨_, He.eqO_ok (TstX.tst c 132), (TstX.tst c 133), (R_Row___iter__ rfl g t_Row___iter__ F).mono (by decide)⟩
    · cases e
  have olen : LnoOk PySem.Challenge.pw_lawseries_k08_rows_told w mg base (cnK K) 2 tlnT := by
    refine ⟨fun n m e => ?_⟩
    unfold tlnT at e
    split at e
    · cases e
      obtain ⟨fd, F⟩ := TstX.def_ c 44
      exact ⟨_, He.eqO_ok (TstX.tst c 134), (TstX.tst c 135), (R_Row___len__ rfl g t_Row___len__ F).mono (by decide)⟩
    · cases e
  have p_degree : PrpOk PySem.Challenge.pw_lawseries_k08_rows_told w mg base (cnK K) 2 "degree" tp_degree := by
    refine ⟨fun n m e => ?_⟩
    unfold tp_degree at e
    split at e
    · cases e
      obtain ⟨fd, F⟩ := TstX.def_ c 38
      obtain ⟨b1, b2, b3, b4⟩ := pvB_ok ((TstX.tst c 136) : pvB K (He.ga K "Row") "degree" = true)
      exact ⟨sclB_ok (TstX.tst c 31), _, _, b1, b2, b3, b4, (R_Row_degree rfl g t_Row_degree F).mono (by decide)⟩
    · cases e
  have p_is_whole : PrpOk PySem.Challenge.pw_lawseries_k08_rows_told w mg base (cnK K) 2 "is_whole" tp_is_whole := by
    refine ⟨fun n m e => ?_⟩
    unfold tp_is_whole at e
    split at e
    · cases e
      obtain ⟨fd, F⟩ := TstX.def_ c 41
      obtain ⟨b1, b2, b3, b4⟩ := pvB_ok ((TstX.tst c 137) : pvB K (He.ga K "Row") "is_whole" = true)
      exact ⟨sclB_ok (TstX.tst c 31), _, _, b1, b2, b3, b4, (R_Row_is_whole rfl g t_Row_is_whole F).mono (by decide)⟩
    · cases e
  have p_modulus : PrpOk PySem.Challenge.pw_lawseries_k08_rows_told w mg base (cnK K) 2 "modulus" tp_modulus := by
    refine ⟨fun n m e => ?_⟩
    unfold tp_modulus at e
    split at e
    · cases e
      obtain ⟨fd, F⟩ := TstX.def_ c 39
      obtain ⟨b1, b2, b3, b4⟩ := pvB_ok ((TstX.tst c 138) : pvB K (He.ga K "Row") "modulus" = true)
      exact ⟨sclB_ok (TstX.tst c 31), _, _, b1, b2, b3, b4, (R_Row_modulus rfl g t_Row_modulus F).mono (by decide)⟩
    · cases e
  have p_order : PrpOk PySem.Challenge.pw_lawseries_k08_rows_told w mg base (cnK K) 2 "order" tp_order := by
    refine ⟨fun n m e => ?_⟩
    unfold tp_order at e
    split at e
    · cases e
      obtain ⟨fd, F⟩ := TstX.def_ c 40
      obtain ⟨b1, b2, b3, b4⟩ := pvB_ok ((TstX.tst c 139) : pvB K (He.ga K "Row") "order" = true)
      exact ⟨sclB_ok (TstX.tst c 31), _, _, b1, b2, b3, b4, (R_Row_order rfl g t_Row_order F).mono (by decide)⟩
    · cases e
  have t__law_fractions_right : T__law_fractions_right PySem.Challenge.pw_lawseries_k08_rows_told w K mg base (cnK K) := ⟨d__law_are_whole, d__law_pairs_of, d__law_pick, d__law_roll, d__law_rw_drawn, d__law_rw_made, d__law_rw_text, d__law_whole, K_Row, k_Ratio, q_at, oeq, oit, olen, ostr, p_degree, p_entries, p_is_whole, p_modulus, p_order⟩
  have w_Row : MkrK PySem.Challenge.pw_lawseries_k08_rows_told w K mg base (cnK K) 12 "Row" 1 ["modulus"] 3 i_Row := by
    obtain ⟨fd, F⟩ := TstX.def_ c 25
    exact ⟨_, mkB_ok (TstX.tst c 106), W_Row_init rfl g t_Row_init (tb_Row_init c TBs) F, (He.glo_ok X G (TstX.tst c 37))⟩
  have t__law_residues_right : T__law_residues_right PySem.Challenge.pw_lawseries_k08_rows_told w K mg base (cnK K) := ⟨d__law_pick, d__law_roll, d__law_rw_text, K_Row, w_Row, q_whole, oeq, oit, olen, ostr, p_entries, p_is_whole, p_modulus⟩
  have t_Made_init : T_Made_init PySem.Challenge.pw_lawseries_k08_rows_told w K mg base (cnK K) := ⟨a_own_line⟩
  have k_Made : Mkr PySem.Challenge.pw_lawseries_k08_rows_told w K mg base (cnK K) 2 "Made" 2 i_Made := by
    obtain ⟨fd, F⟩ := TstX.def_ c 48
    exact ⟨_, mkB_ok (TstX.tst c 140), R_Made_init rfl g t_Made_init F, (He.glo_ok X G (TstX.tst c 94))⟩
  have mk_Row_kw : MkrC PySem.Challenge.pw_lawseries_k08_rows_told w K mg base (cnK K) 12 1 ["modulus"] 3 i_Row := by
    obtain ⟨fd, F⟩ := TstX.def_ c 25
    exact ⟨rfl, _, mkB_ok (TstX.tst c 106), W_Row_init rfl g t_Row_init (tb_Row_init c TBs) F⟩
  have t_Row_plain : T_Row_plain PySem.Challenge.pw_lawseries_k08_rows_told w K mg base (cnK K) := ⟨d_require_count, d_require_modulus, k_Made, mk_Row_kw⟩
  have c0_Row_plain : CmOk PySem.Challenge.pw_lawseries_k08_rows_told w K mg base (cnK K) 14 "Row" "plain" 3 1 [] (dfl m_Row_plain (.int (0))) := by
    obtain ⟨fd, F⟩ := TstX.def_ c 49
    obtain ⟨r1, r2⟩ := cmB_ok ((TstX.tst c 141) : cmB K (He.ga K "Row") "plain" = true)
    exact ⟨_, _, _, _, rfl, (He.glo_ok X G (TstX.tst c 37)), r1, r2, (D_Row_plain (cn := cnK K) rfl g t_Row_plain F).toK⟩
  have d__law_dice : Cal PySem.Challenge.pw_lawseries_k08_rows_told w K mg base (cnK K) 2 "_law_dice" m__law_dice := by
    obtain ⟨fd, F⟩ := TstX.def_ c 0
    exact ⟨_, R__law_dice rfl g t__law_dice F, (He.glo_ok X G (TstX.tst c 142)), F.kp⟩
  have d__law_fractions_right : Cal PySem.Challenge.pw_lawseries_k08_rows_told w K mg base (cnK K) 17 "_law_fractions_right" m__law_fractions_right := by
    obtain ⟨fd, F⟩ := TstX.def_ c 46
    exact ⟨_, R__law_fractions_right rfl g t__law_fractions_right F, (He.glo_ok X G (TstX.tst c 143)), F.kp⟩
  have d__law_residues_right : Cal PySem.Challenge.pw_lawseries_k08_rows_told w K mg base (cnK K) 15 "_law_residues_right" m__law_residues_right := by
    obtain ⟨fd, F⟩ := TstX.def_ c 47
    exact ⟨_, R__law_residues_right rfl g t__law_residues_right F, (He.glo_ok X G (TstX.tst c 144)), F.kp⟩
  have t_law : T_law PySem.Challenge.pw_lawseries_k08_rows_told w K mg base (cnK K) := ⟨c0_Row_plain, d__law_dice, d__law_fractions_right, d__law_residues_right, K_Row, k_Ratio, q_whole, oeq, ostr, p_degree, p_is_whole, p_order⟩
  exact t_law
theorem fin {fa : Addr} (Y : tst.Says K h) (G : h.Ns mainGlobals mg) (hfa : mg "law" = some (.ref fa)) :
    ∃ (K : PySem.W.Frag) (fd : FuncData) (cs : List (Addr × Addr)) (sp : Sp), K.In h ∧ (∀ p ∈ cs, h.get? p.2 = some { cls := .none, data := .fields #[] }) ∧ (∀ p ∈ cs, K.lookup p.2 = none) ∧ (∀ p ∈ cs, PySem.W.CodeHd h p.1 p.2) ∧
      (∀ (s : Shared) (u : Value), BindsTo s fd ⟨[u], []⟩ [("_law_script", u)]) ∧
      (∀ (H : Hp) (a : Addr) (ns : List Int), ns.length ≤ 63 → (∀ p ∈ cs, H p.2 = some (.tbl #[])) → SqL K H a (ns.map V.int) → sp [.ref a] H (fun v _ => v = .bl true) fun _ _ _ => False) ∧
      ∀ base : Heap, K.In base → base.Ns mainGlobals mg → (∀ p ∈ cs, LamX.TabB base mg p.1 p.2) → Dx.FnOk PySem.Challenge.pw_lawseries_k08_rows_told w K mg base L2.CX0 20 fa fd ["_law_script"] sp := by
  have c := Y.c
  have X := Y.x
  obtain ⟨fd, F⟩ := TstX.def_ c 50
  have e := hfa.symm.trans (He.glo_ok X G (TstX.tst c 145))
  cases e
  have b := FunD.bindsA (ps := ["_law_script"]) F fun _ _ _ _ _ _ us hl => match us, hl with | [_], _ => rfl
  have hcs : ∀ p ∈ csK K, ∃ f ∈ tst.tb, p = (cdX K (f K), tbX K (f K)) := fun p hp => by
    have e : csK K = tst.tb.map fun f => (cdX K (f K), tbX K (f K)) := rfl
    rw [e] at hp
    obtain ⟨f, h1, h2⟩ := List.mem_map.mp hp
    exact ⟨f, h1, h2.symm⟩
  refine ⟨K, fd, csK K, _, X, fun p hp => ?_, fun p hp => ?_, fun p hp => ?_, fun s v => b s [v] rfl, fun H a ns hl hT hS => law_trueT (cn := cnK K) rfl plain H a ns hl (fun P hP => ?_) hS, fun base _ _ TBs => law_fin (O_law rfl (gs X G c) (all X G c TBs) F)⟩
  · obtain ⟨f, h1, rfl⟩ := hcs p hp
    exact (Y.tab f h1).1
  · obtain ⟨f, h1, rfl⟩ := hcs p hp
    exact (Y.tab f h1).2.1
  · obtain ⟨f, h1, rfl⟩ := hcs p hp
    exact (Y.tab f h1).2.2
  · have hm : P ∈ (csK K).map (·.2) := by
      have e : (csK K).map (·.2) = (tqK K).map (·.1) ++ tgK K := rfl
      rw [e]
      rcases hP with hP | hP
      · exact List.mem_append_left _ (tqL_mem hP)
      · exact List.mem_append_right _ (of_decide_eq_true hP)
    obtain ⟨p, h1, h2⟩ := List.mem_map.mp hm
    exact h2 ▸ hT p h1
end
end K08
open PySem PySem.W PySem.Calls PyProof.Rows
set_option maxHeartbeats 0 in
theorem PySem.Challenge.cw_lawseries_k08_rows_told_holds : PySem.Challenge.rw_lawseries_k08_rows_told.Holds := by
  refine K08.look fun said => ?_
  refine HandSHeadRun.head_imp (r := OpenLaw.row PySem.Challenge.rw_lawseries_k08_rows_told) (q := view (OpenLaw.row PySem.Challenge.rw_lawseries_k08_rows_told).prog [0, 67]) (H := K08.tst.hook) (ob := K08.tst.ob) (M := 20000) (loose := K08.loose) (d := HandSHeadRun.topDef (OpenLaw.row PySem.Challenge.rw_lawseries_k08_rows_told).prog 67) (kwd := []) K08.tst.ob_eq
    K08.run (by kernel_rfl) (by kernel_rfl) (by kernel_rfl) (by rfl) said (by decide +kernel) K08.bare K08.wit ?hc
  case hc =>
    refine Dx.walk_ofX (l := PySem.Challenge.rw_lawseries_k08_rows_told) (n := 63) (k := 20) (x := "_law_script") (CX := L2.CX0) rfl (by decide) (by kernel_rfl) ⟨⟨rfl, by decide, by decide⟩, fun _ => rfl⟩ ?F ?X
    case X => exact fun _ _ _ _ z => z
    intro w mg fa h Y G hmg0
    obtain ⟨K, Y⟩ := Y
    have hmg : mg ("law" : PySem.Str) = some (.ref fa) := by
      have e : (HandSHeadRun.topDef (OpenLaw.row PySem.Challenge.rw_lawseries_k08_rows_told).prog 67).name = ("law" : PySem.Str) := by kernel_rfl
      rw [<- e]
      exact hmg0
    exact K08.fin Y G hmg
