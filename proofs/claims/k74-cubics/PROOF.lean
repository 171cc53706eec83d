import PyProof.Rows.All
import Wide.All
import OpenK.AllK
import Wide.FinOn
import KE.KStateDown
import Lean
import HandS.ForMost
import HandS.ForExc
import HandS.Slots
import HandS.SlotsOwn
import HandS.SlotsVar
import HandS.Property
import HandS.Wide
import HandS.Gcd
import HandS.TupMul
import HandS.TupAny
import HandS.SortInts
import HandS.Style
import HandS.More
import HandS.Defaults
import HandS.MakeKw
import HandS.CallSlots
import HandS.ClsMeth
import HandS.FStr
import HandS.IsInst
import HandS.DictSubView
import HandS.DictTup
import HandS.Conv
import HandS.WordsExc
import HandS.Head0
import HandS.Head1
import HandS.Head2
import HandS.HeadEnd
import HandS.HeadHook1
import HandS.HeadHook2
import PySem.Challenge.RW_lawseries_k74_whole_traces_and_kinds_of
set_option Elab.async false
set_option linter.all false
set_option maxRecDepth 100000
set_option maxHeartbeats 4000000
/-! Dx.Core: data, local states, results; how they stand for values and heaps. -/
namespace Dx
open PySem PySem.Spec PyProof.Rows L2

inductive D where
  | non | bl (b : Bool) | int (i : Int) | str (x : Str)
  | tup (ds : List D) | lst (ds : List D)
  | dK (ks : List Key) (ds : List D) | dT (ks : List (List Key)) (ds : List D)
  | ins (c : Nat) (fs : List D)
  | scr (ns : List Int) | ty (n : String) | glo (n : Nat) | dice
  deriving Inhabited

/-- what a cell of the frame's own holds -/
inductive CO where
  | lst (ds : List D) | dK (ks : List Key) (ds : List D) | dT (ks : List (List Key)) (ds : List D)
def CO.d : CO → D
  | .lst ds => .lst ds | .dK ks ds => .dK ks ds | .dT ks ds => .dT ks ds
inductive Slot where
  | un | v (d : D) | own (c : CO) | slf
/-- what a call shares with its callers: the dice; the object that is being made -/
structure G where
  d : Option (Int × Int × Int) := none
  ob : Option (Nat × List (Option D)) := none
structure Ad where
  d : Addr
  oa : Addr
  od : Addr
def G.sh (g : G) : Bool × Bool := (g.d.isSome, g.ob.isSome)
structure LSt where
  sl : List Slot
  g : G
/-- an exception: its class, what it keeps -/
structure XC where
  c : Nat
  args : List D

inductive Res (α : Type) where
  | ok (a : α) (l : LSt) | ex (x : XC) (l : LSt) | bad
@[reducible] def Res.bind {α β : Type} (r : Res α) (k : α → LSt → Res β) : Res β := match r with
  | .ok a l => k a l
  | .ex x l => .ex x l
  | .bad => .bad
/-- the end of an expression, a call: data, or a fresh cell -/
inductive EV where
  | v (d : D) | o (c : CO)
def EV.d : EV → D
  | .v d => d | .o c => c.d
inductive Fl where
  | nx (l : LSt) | rt (e : EV) (l : LSt) | bk (l : LSt) | ct (l : LSt) | ex (x : XC) (l : LSt) | bad
inductive FR where
  | ok (e : EV) (g : G) | ex (x : XC) (g : G) | bad
abbrev Fm := List D → G → FR

/-- the text: the written part, the classes' and the globals' addresses -/
structure Cn where
  K : PySem.W.Frag
  cA : Nat → Addr
  gA : Nat → Addr
  xf : Nat → Str
/-- a call: its text, the heaps at its entry, the dice's address -/
structure Ac extends Cn where
  hid : Hp
  Hf0 : Hp
  ad : Ad
  gs : Bool × Bool

mutual
def RVal (c : Cn) (ad : Ad) (H : Hp) : D → V → Prop
  | .non, v => v = .non
  | .bl b, v => v = .bl b
  | .int i, v => v = .int i
  | .str x, v => v = .str x
  | .tup ds, v => ∃ a vs, v = .ref a ∧ SqT c.K H a vs ∧ RVals c ad H ds vs
  | .lst ds, v => ∃ a vs, v = .ref a ∧ H a = some (.lst vs) ∧ RVals c ad H ds vs
  | .scr ns, v => ∃ a, v = .ref a ∧ SqL c.K H a (ns.map V.int)
  | .dK ks ds, v => ∃ a vs, v = .ref a ∧ H a = some (.dK (ks.zip vs)) ∧ ks.length = vs.length ∧ RVals c ad H ds vs
  | .dT ks ds, v => ∃ a vs, v = .ref a ∧ H a = some (.dT (ks.zip vs)) ∧ ks.length = vs.length ∧ RVals c ad H ds vs
  | .ins n fs, v => ∃ a dx vs, v = .ref a ∧ H a = some (SlX.SlO a (c.cA n) dx (vs.map some)) ∧ H dx = some (.xd []) ∧ RVals c ad H fs vs
  | .ty n, v => v = .ty n
  | .glo n, v => v = .ref (c.gA n)
  | .dice, v => v = .ref ad.d

def RVals (c : Cn) (ad : Ad) (H : Hp) : List D → List V → Prop
  | [], vs => vs = []
  | d :: ds, vs => ∃ v r, vs = v :: r ∧ RVal c ad H d v ∧ RVals c ad H ds r
end

theorem sameT {K : PySem.W.Frag} {H H' : Hp} {a : Addr} {xs : List V} (e : Same H H') (h : SqT K H a xs) : SqT K H' a xs := by
  rcases h with (h | ⟨o, h⟩) | h
  · exact .inl (.inl (e _ _ h))
  · exact .inl (.inr ⟨o, e _ _ h⟩)
  · exact .inr h
mutual
theorem RVal.mono {c : Cn} {ad : Ad} {H H' : Hp} (e : Same H H') : ∀ (d : D) (v : V), RVal c ad H d v → RVal c ad H' d v
  | .non, _, h => h
  | .bl _, _, h => h
  | .int _, _, h => h
  | .str _, _, h => h
  | .tup ds, _, ⟨a, vs, q, h, r⟩ => ⟨a, vs, q, sameT e h, RVals.mono e ds vs r⟩
  | .lst ds, _, ⟨a, vs, q, h, r⟩ => ⟨a, vs, q, e _ _ h, RVals.mono e ds vs r⟩
  | .scr _, _, ⟨a, q, h⟩ => ⟨a, q, e.seq h⟩
  | .dK ks ds, _, ⟨a, vs, q, h, l, r⟩ => ⟨a, vs, q, e _ _ h, l, RVals.mono e ds vs r⟩
  | .dT ks ds, _, ⟨a, vs, q, h, l, r⟩ => ⟨a, vs, q, e _ _ h, l, RVals.mono e ds vs r⟩
  | .ins n fs, _, ⟨a, dx, vs, q, h, h2, r⟩ => ⟨a, dx, vs, q, e _ _ h, e _ _ h2, RVals.mono e fs vs r⟩
  | .ty _, _, h => h
  | .glo _, _, h => h
  | .dice, _, h => h

theorem RVals.mono {c : Cn} {ad : Ad} {H H' : Hp} (e : Same H H') : ∀ (ds : List D) (vs : List V), RVals c ad H ds vs → RVals c ad H' ds vs
  | [], _, h => h
  | d :: ds, _, ⟨v, r, q, h, t⟩ => ⟨v, r, q, RVal.mono e d v h, RVals.mono e ds r t⟩
end
section
variable {c : Cn} {ad : Ad} {H : Hp}
theorem RVals.nil : RVals c ad H [] [] := rfl
theorem RVals.cons {d : D} {v : V} {ds : List D} {vs : List V} (h : RVal c ad H d v) (t : RVals c ad H ds vs) : RVals c ad H (d :: ds) (v :: vs) := ⟨v, vs, rfl, h, t⟩
theorem RVals.length : ∀ {ds : List D} {vs : List V}, RVals c ad H ds vs → ds.length = vs.length
  | [], _, h => by cases (show _ = [] from h); rfl
  | _ :: _, _, ⟨v, r, q, _, t⟩ => by rw [q, List.length_cons, List.length_cons, RVals.length t]
theorem RVals.get : ∀ {ds : List D} {vs : List V} {i : Nat} {d : D}, RVals c ad H ds vs → ds[i]? = some d → ∃ v, vs[i]? = some v ∧ RVal c ad H d v
  | [], _, _, _, _, e => by simp at e
  | _ :: _, _, 0, _, ⟨v, r, q, h, t⟩, e => by
    simp at e
    subst e
    exact ⟨v, by rw [q]; rfl, h⟩
  | _ :: _, _, i + 1, d, ⟨v, r, q, h, t⟩, e => by
    obtain ⟨u, e1, e2⟩ := RVals.get (i := i) (d := d) t (by simpa using e)
    exact ⟨u, by rw [q]; simpa using e1, e2⟩
theorem RVals.getv : ∀ {ds : List D} {vs : List V} {i : Nat} {v : V}, RVals c ad H ds vs → vs[i]? = some v → ∃ d, ds[i]? = some d ∧ RVal c ad H d v
  | [], _, _, _, h, e => by
    cases (show _ = [] from h)
    simp at e
  | d :: _, _, 0, _, ⟨v, r, q, h, t⟩, e => by
    rw [q] at e
    simp at e
    subst e
    exact ⟨d, rfl, h⟩
  | _ :: _, _, i + 1, v', ⟨v, r, q, h, t⟩, e => by
    rw [q] at e
    obtain ⟨u, e1, e2⟩ := RVals.getv (i := i) (v := v') t (by simpa using e)
    exact ⟨u, by simpa using e1, e2⟩
theorem RVals.append : ∀ {ds es : List D} {vs us : List V}, RVals c ad H ds vs → RVals c ad H es us → RVals c ad H (ds ++ es) (vs ++ us)
  | [], _, _, _, h, t => by
    cases (show _ = [] from h)
    exact t
  | _ :: _, _, _, _, ⟨v, r, q, h, t⟩, u => by
    subst q
    exact ⟨v, _, rfl, h, RVals.append t u⟩
theorem RVals.take : ∀ {ds : List D} {vs : List V} (n : Nat), RVals c ad H ds vs → RVals c ad H (ds.take n) (vs.take n)
  | _, _, 0, _ => by simp [RVals]
  | [], _, n + 1, h => by
    cases (show _ = [] from h)
    simp [RVals]
  | _ :: _, _, n + 1, ⟨v, r, q, h, t⟩ => by
    subst q
    exact ⟨v, _, rfl, h, RVals.take n t⟩
theorem RVals.drop : ∀ {ds : List D} {vs : List V} (n : Nat), RVals c ad H ds vs → RVals c ad H (ds.drop n) (vs.drop n)
  | _, _, 0, h => by simpa using h
  | [], _, n + 1, h => by
    cases (show _ = [] from h)
    simp [RVals]
  | _ :: _, _, n + 1, ⟨v, r, q, h, t⟩ => by
    subst q
    exact RVals.drop n t
theorem RVals.set {d : D} {v : V} (hd : RVal c ad H d v) : ∀ {ds : List D} {vs : List V} (i : Nat), RVals c ad H ds vs → RVals c ad H (ds.set i d) (vs.set i v)
  | [], _, _, h => by
    cases (show _ = [] from h)
    exact rfl
  | _ :: _, _, 0, ⟨w, r, q, h, t⟩ => by
    subst q
    exact ⟨v, _, rfl, hd, t⟩
  | _ :: _, _, i + 1, ⟨w, r, q, h, t⟩ => by
    subst q
    exact ⟨w, _, rfl, h, RVals.set hd i t⟩
theorem RVals.reverse : ∀ {ds : List D} {vs : List V}, RVals c ad H ds vs → RVals c ad H ds.reverse vs.reverse
  | [], _, h => by
    cases (show _ = [] from h)
    exact rfl
  | d :: ds, _, ⟨w, r, q, h, t⟩ => by
    subst q
    rw [List.reverse_cons, List.reverse_cons]
    exact RVals.append (RVals.reverse t) (.cons h .nil)
end

/-! ### the state -/
def isD (g : G) (ad : Ad) (a : Addr) : Prop := (g.sh.1 = true ∧ a = ad.d) ∨ (g.sh.2 = true ∧ (a = ad.oa ∨ a = ad.od))
/-- the fields that an object has so far -/
def ROs (c : Cn) (ad : Ad) (Hf : Hp) (fs : List (Option D)) (us : List (Option V)) : Prop := fs.length = us.length ∧ ∀ (i : Nat) (d : D), fs[i]? = some (some d) → ∃ v, us[i]? = some (some v) ∧ RVal c ad Hf d v
def DcOk (Hf H : Hp) (ad : Ad) (g : G) : Prop := ∀ x y z, g.d = some (x, y, z) → Hf ad.d = none ∧ H ad.d = some (.lst [.int x, .int y, .int z])
def ObOk (c : Cn) (Hf H : Hp) (ad : Ad) (g : G) : Prop := ∀ n fs, g.ob = some (n, fs) → Hf ad.oa = none ∧ Hf ad.od = none ∧ ad.od ≠ ad.oa ∧ (H ad.od = some (.own ad.oa) ∨ H ad.od = some (.xd [])) ∧ ∃ us, SlX.Slt H ad.oa (c.cA n) ad.od us ∧ ROs c ad Hf fs us
structure DiceOk (c : Cn) (Hf H : Hp) (ad : Ad) (g : G) : Prop where
  dc : DcOk Hf H ad g
  obj : ObOk c Hf H ad g
/-- what a cell holds, by its object -/
def RCO (c : Cn) (ad : Ad) (Hf : Hp) : CO → HO → Prop
  | .lst ds, o => ∃ vs, o = .lst vs ∧ RVals c ad Hf ds vs
  | .dK ks ds, o => ∃ vs, o = .dK (ks.zip vs) ∧ ks.length = vs.length ∧ RVals c ad Hf ds vs
  | .dT ks ds, o => ∃ vs, o = .dT (ks.zip vs) ∧ ks.length = vs.length ∧ RVals c ad Hf ds vs
theorem RCO.mono {c : Cn} {ad : Ad} {Hf Hf' : Hp} (e : Same Hf Hf') : ∀ {co : CO} {o : HO}, RCO c ad Hf co o → RCO c ad Hf' co o
  | .lst ds, _, ⟨vs, q, r⟩ => ⟨vs, q, RVals.mono e _ _ r⟩
  | .dK ks ds, _, ⟨vs, q, l, r⟩ => ⟨vs, q, l, RVals.mono e _ _ r⟩
  | .dT ks ds, _, ⟨vs, q, l, r⟩ => ⟨vs, q, l, RVals.mono e _ _ r⟩
/-- a cell, seen as data in a heap that holds it -/
theorem RCO.val {c : Cn} {ad : Ad} {Hf : Hp} {a : Addr} {o : HO} (n : Hf a = none) : ∀ {co : CO}, RCO c ad Hf co o → RVal c ad (upd Hf a o) co.d (.ref a)
  | .lst ds, ⟨vs, q, r⟩ => ⟨a, vs, rfl, by rw [upd_same, q], RVals.mono (fun b u e => by rw [upd_ne (ne_of_none e n)]; exact e) _ _ r⟩
  | .dK ks ds, ⟨vs, q, l, r⟩ => ⟨a, vs, rfl, by rw [upd_same, q], l, RVals.mono (fun b u e => by rw [upd_ne (ne_of_none e n)]; exact e) _ _ r⟩
  | .dT ks ds, ⟨vs, q, l, r⟩ => ⟨a, vs, rfl, by rw [upd_same, q], l, RVals.mono (fun b u e => by rw [upd_ne (ne_of_none e n)]; exact e) _ _ r⟩
theorem same_upd {H : Hp} {a : Addr} {o : HO} (n : H a = none) : Same H (upd H a o) := fun b u e => by rw [upd_ne (ne_of_none e n)]; exact e
theorem upd_sub {Hf H : Hp} {a : Addr} {o : HO} (s : Same Hf H) (h : H a = some o) : Same (upd Hf a o) H := fun b u e => by
  by_cases hb : b = a
  · subst hb
    rw [upd_same] at e
    cases e
    exact h
  · rw [upd_ne hb] at e
    exact s b u e

/-- a slot, in the heaps -/
def RSlot (c : Ac) (Hf H : Hp) (g : G) : Slot → Option V → Prop
  | .un, _ => True
  | .v d, x => ∃ v, x = some v ∧ RVal c.toCn c.ad Hf d v
  | .own co, x => ∃ a o, x = some (.ref a) ∧ H a = some o ∧ RCO c.toCn c.ad Hf co o ∧ Hf a = none ∧ c.hid a = none ∧ ¬ isD g c.ad a
  | .slf, x => x = some (.ref c.ad.oa)
def isOwn : Slot → Bool
  | .own _ => true
  | _ => false
structure REnv (c : Ac) (Hf : Hp) (σ : L2.St) (H : Hp) (l : LSt) : Prop where
  len : σ.length = l.sl.length
  slot : ∀ (i : Nat) (s : Slot), l.sl[i]? = some s → ∃ x : Option V, σ[i]? = some x ∧ RSlot c Hf H l.g s x
  dis : ∀ (i j : Nat) (s t : Slot) (a : Addr), l.sl[i]? = some s → l.sl[j]? = some t → isOwn s = true → isOwn t = true → σ[i]? = some (some (.ref a)) → σ[j]? = some (some (.ref a)) → i = j
  sub : Same Hf H
  base : Same c.Hf0 Hf
  frame : ∀ a o, c.hid a = some o → H a = some o ∧ Hf a = none ∧ ¬ isD l.g c.ad a
  dice : DiceOk c.toCn Hf H c.ad l.g
  hgs : l.g.sh = c.gs

section
variable {c : Ac} {Hf H : Hp} {σ : L2.St} {l : LSt}
theorem REnv.val (R : REnv c Hf σ H l) {i : Nat} {d : D} (h : l.sl[i]? = some (.v d)) : ∃ v, σ[i]? = some (some v) ∧ RVal c.toCn c.ad Hf d v := by
  obtain ⟨x, e, v, q, r⟩ := R.slot i _ h
  exact ⟨v, by rw [e, q], r⟩
theorem REnv.own (R : REnv c Hf σ H l) {i : Nat} {co : CO} (h : l.sl[i]? = some (.own co)) :
    ∃ a o, σ[i]? = some (some (.ref a)) ∧ H a = some o ∧ RCO c.toCn c.ad Hf co o ∧ Hf a = none ∧ c.hid a = none ∧ ¬ isD l.g c.ad a := by
  obtain ⟨x, e, a, o, q, r⟩ := R.slot i _ h
  exact ⟨a, o, by rw [e, q], r⟩
section
variable {cn : Cn} {ad : Ad} {a : Addr} {o : HO} {g : G}
theorem ROs.mono {fs : List (Option D)} {us : List (Option V)} {Hf' : Hp} (e : Same Hf Hf') (h : ROs cn ad Hf fs us) : ROs cn ad Hf' fs us := ⟨h.1, fun i d q => by
  obtain ⟨v, h1, h2⟩ := h.2 i d q
  exact ⟨v, h1, h2.mono e⟩⟩
theorem slt_there {H : Hp} {x C dx : Addr} {vs : List (Option V)} (h : SlX.Slt H x C dx vs) : ∃ o, H x = some o := by
  rcases h with ⟨h, _⟩ | ⟨h, _⟩
  · exact ⟨_, h⟩
  · exact ⟨_, h⟩
theorem slt_upd {H : Hp} {x C dx : Addr} {vs : List (Option V)} (h : SlX.Slt H x C dx vs) (h1 : x ≠ a) (h2 : dx ≠ a) : SlX.Slt (upd H a o) x C dx vs := by
  rcases h with ⟨h, e⟩ | ⟨h, e⟩
  · exact .inl ⟨by rw [upd_ne h1]; exact h, e⟩
  · exact .inr ⟨by rw [upd_ne h1]; exact h, by rw [upd_ne h2]; exact e⟩
/-- what is at the reserved places is there -/
theorem DiceOk.new (R : DiceOk cn Hf H ad g) (n : H a = none) : ¬ isD g ad a := by
  rintro (⟨h1, h2⟩ | ⟨h1, h2⟩)
  · have h1' : g.d.isSome = true := h1
    cases e : g.d with
    | none =>
      rw [e] at h1'
      cases h1'
    | some t =>
      obtain ⟨x, y, z⟩ := t
      have := (R.dc x y z e).2
      rw [← h2, n] at this
      cases this
  · have h1' : g.ob.isSome = true := h1
    cases e : g.ob with
    | none =>
      rw [e] at h1'
      cases h1'
    | some t =>
      obtain ⟨k, fs⟩ := t
      obtain ⟨_, _, _, h3, us, h4, _⟩ := R.obj k fs e
      rcases h2 with h2 | h2
      · obtain ⟨u, h5⟩ := slt_there h4
        rw [← h2, n] at h5
        cases h5
      · rcases h3 with h3 | h3
        · rw [← h2, n] at h3
          cases h3
        · rw [← h2, n] at h3
          cases h3
/-- another object is changed, or seen -/
theorem DiceOk.other {Hf' H' : Hp} (R : DiceOk cn Hf H ad g) (nd : ¬ isD g ad a) (e : Same Hf Hf') (h1 : ∀ b, b ≠ a → H' b = H b) (h2 : ∀ b, b ≠ a → Hf' b = Hf b) : DiceOk cn Hf' H' ad g := by
  refine ⟨fun x y z q => ?_, fun k fs q => ?_⟩
  · have ne : ad.d ≠ a := fun z => nd (.inl ⟨by show g.d.isSome = true; rw [q]; rfl, z.symm⟩)
    rw [h1 _ ne, h2 _ ne]
    exact R.dc x y z q
  · have hs : g.ob.isSome = true := by rw [q]; rfl
    have n1 : ad.oa ≠ a := fun z => nd (.inr ⟨hs, .inl z.symm⟩)
    have n2 : ad.od ≠ a := fun z => nd (.inr ⟨hs, .inr z.symm⟩)
    obtain ⟨q1, q2, q3, q4, us, q5, q6⟩ := R.obj k fs q
    refine ⟨by rw [h2 _ n1]; exact q1, by rw [h2 _ n2]; exact q2, q3, ?_, us, ?_, q6.mono e⟩
    · rw [h1 _ n2]
      exact q4
    · rcases q5 with ⟨h, e⟩ | ⟨h, e⟩
      · exact .inl ⟨by rw [h1 _ n1]; exact h, e⟩
      · exact .inr ⟨by rw [h1 _ n1]; exact h, by rw [h1 _ n2]; exact e⟩
theorem DiceOk.alloc (R : DiceOk cn Hf H ad g) (n : H a = none) (nf : Hf a = none) : DiceOk cn (upd Hf a o) (upd H a o) ad g :=
  R.other (R.new n) (same_upd nf) (fun b hb => upd_ne hb) fun b hb => upd_ne hb
theorem DiceOk.hid (R : DiceOk cn Hf H ad g) (n : H a = none) : DiceOk cn Hf (upd H a o) ad g := R.other (R.new n) (Same.refl _) (fun b hb => upd_ne hb) fun b hb => rfl
theorem DiceOk.seen (R : DiceOk cn Hf H ad g) (nd : ¬ isD g ad a) (nf : Hf a = none) : DiceOk cn (upd Hf a o) H ad g := R.other nd (same_upd nf) (fun b hb => rfl) fun b hb => upd_ne hb
theorem DiceOk.poke (R : DiceOk cn Hf H ad g) (nd : ¬ isD g ad a) : DiceOk cn Hf (upd H a o) ad g := R.other nd (Same.refl _) (fun b hb => upd_ne hb) fun b hb => rfl
end
theorem RSlot.keep {Hf' H' : Hp} {g : G} (e : Same Hf Hf') (k : ∀ a o, H a = some o → Hf a = none → c.hid a = none → ¬ isD g c.ad a → H' a = some o ∧ Hf' a = none) : ∀ {s : Slot} {x : Option V}, RSlot c Hf H g s x → RSlot c Hf' H' g s x
  | .un, _, _ => True.intro
  | .v d, _, ⟨v, q, r⟩ => ⟨v, q, r.mono e⟩
  | .own co, _, ⟨a, o, q, h, r, n, n0, nd⟩ => ⟨a, o, q, (k a o h n n0 nd).1, r.mono e, (k a o h n n0 nd).2, n0, nd⟩
  | .slf, _, h => h
/-- a new object, seen -/
theorem REnv.alloc (R : REnv c Hf σ H l) {a : Addr} {o : HO} (n : H a = none) : REnv c (upd Hf a o) σ (upd H a o) l where
  len := R.len
  slot := fun i s h => by
    obtain ⟨x, e, r⟩ := R.slot i s h
    exact ⟨x, e, r.keep (same_upd (R.sub.free n)) fun b u hb hn _ _ => by rw [upd_ne (ne_of_none hb n), upd_ne (ne_of_none hb n)]; exact ⟨hb, hn⟩⟩
  dis := R.dis
  sub := fun b u e => by
    by_cases hb : b = a
    · subst hb
      rw [upd_same] at e ⊢
      exact e
    · rw [upd_ne hb] at e ⊢
      exact R.sub b u e
  base := R.base.trans (same_upd (R.sub.free n))
  frame := fun b u h1 => by
    obtain ⟨e1, e2, e3⟩ := R.frame b u h1
    have ne : b ≠ a := ne_of_none e1 n
    rw [upd_ne ne, upd_ne ne]
    exact ⟨e1, e2, e3⟩
  dice := R.dice.alloc n (R.sub.free n)
  hgs := R.hgs
theorem REnv.free (R : REnv c Hf σ H l) {a : Addr} (n : H a = none) : Hf a = none := R.sub.free n
/-- a new object, not yet seen -/
theorem REnv.hid (R : REnv c Hf σ H l) {a : Addr} {o : HO} (n : H a = none) : REnv c Hf σ (upd H a o) l where
  len := R.len
  slot := fun i s h => by
    obtain ⟨x, e, r⟩ := R.slot i s h
    exact ⟨x, e, r.keep (Same.refl _) fun b u hb hn _ _ => by rw [upd_ne (ne_of_none hb n)]; exact ⟨hb, hn⟩⟩
  dis := R.dis
  sub := R.sub.trans (same_upd n)
  base := R.base
  frame := fun b u h1 => by
    obtain ⟨e1, e2, e3⟩ := R.frame b u h1
    have ne : b ≠ a := ne_of_none e1 n
    rw [upd_ne ne]
    exact ⟨e1, e2, e3⟩
  dice := R.dice.hid n
  hgs := R.hgs
end

section
variable {c : Ac} {Hf H : Hp} {σ : L2.St} {l : LSt}
def LSt.put (l : LSt) (i : Nat) (s : Slot) : LSt := { l with sl := l.sl.set i s }
/-- a cell is frozen -/
theorem REnv.freeze (R : REnv c Hf σ H l) {i : Nat} {co : CO} (h : l.sl[i]? = some (.own co)) : ∃ v Hf', σ[i]? = some (some v) ∧ REnv c Hf' σ H (l.put i (.v co.d)) ∧ Same Hf Hf' ∧ RVal c.toCn c.ad Hf' co.d v := by
  obtain ⟨a, o, e, ha, r, n, n0, nd⟩ := R.own h
  have hi : i < l.sl.length := (List.getElem?_eq_some_iff.mp h).1
  refine ⟨.ref a, upd Hf a o, e, ⟨by rw [R.len]; exact (List.length_set ..).symm, fun j s hj => ?_, fun j k s t b hj hk os ot ej ek => ?_, upd_sub R.sub ha, R.base.trans (same_upd n), fun b u h1 => ?_, ?_, R.hgs⟩, same_upd n, r.val n⟩
  · by_cases hji : j = i
    · subst hji
      have q : (LSt.put l j (.v co.d)).sl[j]? = some (.v co.d) := List.getElem?_set_self hi
      rw [q] at hj
      cases hj
      exact ⟨_, e, .ref a, rfl, r.val n⟩
    · have q : (LSt.put l i (.v co.d)).sl[j]? = l.sl[j]? := List.getElem?_set_ne (Ne.symm hji)
      rw [q] at hj
      obtain ⟨x, ex, rs⟩ := R.slot j s hj
      refine ⟨x, ex, ?_⟩
      cases s with
      | un => exact True.intro
      | slf => exact rs
      | v d =>
        obtain ⟨v, qv, rv⟩ := rs
        exact ⟨v, qv, rv.mono (same_upd n)⟩
      | own co' =>
        obtain ⟨a', o', qa, ha', r', n', n0', nd'⟩ := rs
        have ne : a' ≠ a := fun z => hji (R.dis j i _ _ a hj h rfl rfl (by rw [ex, qa, z]) e)
        exact ⟨a', o', qa, ha', r'.mono (same_upd n), by rw [upd_ne ne]; exact n', n0', nd'⟩
  · have hji : j ≠ i := fun z => by
      subst z
      have q : (LSt.put l j (.v co.d)).sl[j]? = some (.v co.d) := List.getElem?_set_self hi
      rw [q] at hj
      cases hj
      cases os
    have hki : k ≠ i := fun z => by
      subst z
      have q : (LSt.put l k (.v co.d)).sl[k]? = some (.v co.d) := List.getElem?_set_self hi
      rw [q] at hk
      cases hk
      cases ot
    have q1 : (LSt.put l i (.v co.d)).sl[j]? = l.sl[j]? := List.getElem?_set_ne (Ne.symm hji)
    have q2 : (LSt.put l i (.v co.d)).sl[k]? = l.sl[k]? := List.getElem?_set_ne (Ne.symm hki)
    rw [q1] at hj
    rw [q2] at hk
    exact R.dis j k s t b hj hk os ot ej ek
  · obtain ⟨e1, e2, e3⟩ := R.frame b u h1
    have ne : b ≠ a := fun z => by rw [z, n0] at h1; cases h1
    rw [upd_ne ne]
    exact ⟨e1, e2, e3⟩
  · exact R.dice.seen nd n
/-- a slot is stored, by data -/
theorem REnv.store (R : REnv c Hf σ H l) {i : Nat} {d : D} {v : V} (r : RVal c.toCn c.ad Hf d v) : REnv c Hf (σ.set i (some v)) H (l.put i (.v d)) where
  len := by
    show (σ.set i (some v)).length = (l.sl.set i (.v d)).length
    rw [List.length_set, List.length_set]
    exact R.len
  slot := fun j s hj => by
    by_cases hji : j = i
    · subst hji
      have hj' : (l.sl.set j (.v d))[j]? = some s := hj
      have hl : j < l.sl.length := by
        have := (List.getElem?_eq_some_iff.mp hj').1
        rwa [List.length_set] at this
      rw [List.getElem?_set_self hl] at hj'
      cases hj'
      exact ⟨some v, List.getElem?_set_self (by rw [R.len]; exact hl), v, rfl, r⟩
    · have hj' : (l.sl.set i (.v d))[j]? = some s := hj
      rw [List.getElem?_set_ne (Ne.symm hji)] at hj'
      obtain ⟨x, e, q⟩ := R.slot j s hj'
      exact ⟨x, by rw [List.getElem?_set_ne (Ne.symm hji)]; exact e, q⟩
  dis := fun j k s t b hj hk os ot ej ek => by
    have hj' : (l.sl.set i (.v d))[j]? = some s := hj
    have hk' : (l.sl.set i (.v d))[k]? = some t := hk
    have own_ne : ∀ {m : Nat} {u : Slot}, (l.sl.set i (.v d))[m]? = some u → isOwn u = true → m ≠ i := fun {m u} hm ou z => by
      subst z
      have hl : m < l.sl.length := by
        have := (List.getElem?_eq_some_iff.mp hm).1
        rwa [List.length_set] at this
      rw [List.getElem?_set_self hl] at hm
      cases hm
      cases ou
    have n1 := own_ne hj' os
    have n2 := own_ne hk' ot
    rw [List.getElem?_set_ne (Ne.symm n1)] at hj' ej
    rw [List.getElem?_set_ne (Ne.symm n2)] at hk' ek
    exact R.dis j k s t b hj' hk' os ot ej ek
  sub := R.sub
  base := R.base
  frame := R.frame
  dice := R.dice
  hgs := R.hgs
/-- a slot is stored, by a fresh cell -/
theorem REnv.storeO (R : REnv c Hf σ H l) {i : Nat} {co : CO} {a : Addr} {o : HO} (h : H a = some o) (r : RCO c.toCn c.ad Hf co o) (n : Hf a = none) (n0 : c.hid a = none) (nd : ¬ isD l.g c.ad a)
    (fr : ∀ (j : Nat) (s : Slot), l.sl[j]? = some s → isOwn s = true → σ[j]? ≠ some (some (.ref a))) : REnv c Hf (σ.set i (some (.ref a))) H (l.put i (.own co)) where
  len := by
    show (σ.set i (some (.ref a))).length = (l.sl.set i (.own co)).length
    rw [List.length_set, List.length_set]
    exact R.len
  slot := fun j s hj => by
    have hj' : (l.sl.set i (.own co))[j]? = some s := hj
    by_cases hji : j = i
    · subst hji
      have hl : j < l.sl.length := by
        have := (List.getElem?_eq_some_iff.mp hj').1
        rwa [List.length_set] at this
      rw [List.getElem?_set_self hl] at hj'
      cases hj'
      exact ⟨some (.ref a), List.getElem?_set_self (by rw [R.len]; exact hl), a, o, rfl, h, r, n, n0, nd⟩
    · rw [List.getElem?_set_ne (Ne.symm hji)] at hj'
      obtain ⟨x, e, q⟩ := R.slot j s hj'
      exact ⟨x, by rw [List.getElem?_set_ne (Ne.symm hji)]; exact e, q⟩
  dis := fun j k s t b hj hk os ot ej ek => by
    have hj' : (l.sl.set i (.own co))[j]? = some s := hj
    have hk' : (l.sl.set i (.own co))[k]? = some t := hk
    by_cases n1 : j = i
    · by_cases n2 : k = i
      · rw [n1, n2]
      · exfalso
        subst n1
        have hl : j < l.sl.length := by
          have := (List.getElem?_eq_some_iff.mp hj').1
          rwa [List.length_set] at this
        rw [List.getElem?_set_self (by rw [R.len]; exact hl)] at ej
        cases ej
        rw [List.getElem?_set_ne (Ne.symm n2)] at hk' ek
        exact fr k t hk' ot ek
    · rw [List.getElem?_set_ne (Ne.symm n1)] at hj' ej
      by_cases n2 : k = i
      · exfalso
        subst n2
        have hl : k < l.sl.length := by
          have := (List.getElem?_eq_some_iff.mp hk').1
          rwa [List.length_set] at this
        rw [List.getElem?_set_self (by rw [R.len]; exact hl)] at ek
        cases ek
        exact fr j s hj' os ej
      · rw [List.getElem?_set_ne (Ne.symm n2)] at hk' ek
        exact R.dis j k s t b hj' hk' os ot ej ek
  sub := R.sub
  base := R.base
  frame := R.frame
  dice := R.dice
  hgs := R.hgs
/-- a cell of the frame's own is written -/
theorem REnv.write (R : REnv c Hf σ H l) {i : Nat} {co co' : CO} {a : Addr} {o : HO} (h : l.sl[i]? = some (.own co)) (e : σ[i]? = some (some (.ref a))) (r : RCO c.toCn c.ad Hf co' o) : REnv c Hf σ (upd H a o) (l.put i (.own co')) := by
  obtain ⟨a', o', e', ha, _, n, n0, nd⟩ := R.own h
  have ea : a' = a := by
    rw [e'] at e
    cases e
    rfl
  subst ea
  have hi : i < l.sl.length := (List.getElem?_eq_some_iff.mp h).1
  refine ⟨by rw [R.len]; exact (List.length_set ..).symm, fun j s hj => ?_, fun j k s t b hj hk os ot ej ek => ?_, fun b u hb => by rw [upd_ne (fun z => by rw [z, n] at hb; cases hb)]; exact R.sub b u hb, R.base, fun b u h1 => ?_, ?_, R.hgs⟩
  · have hj' : (l.sl.set i (.own co'))[j]? = some s := hj
    by_cases hji : j = i
    · subst hji
      rw [List.getElem?_set_self hi] at hj'
      cases hj'
      exact ⟨_, e', a', o, rfl, upd_same, r, n, n0, nd⟩
    · rw [List.getElem?_set_ne (Ne.symm hji)] at hj'
      obtain ⟨x, ex, rs⟩ := R.slot j s hj'
      refine ⟨x, ex, ?_⟩
      cases s with
      | un => exact True.intro
      | slf => exact rs
      | v d => exact rs
      | own co2 =>
        obtain ⟨a2, o2, qa, ha2, r2, n2, n02, nd2⟩ := rs
        have ne : a2 ≠ a' := fun z => hji (R.dis j i _ _ a' hj' h rfl rfl (by rw [ex, qa, z]) e')
        exact ⟨a2, o2, qa, by rw [upd_ne ne]; exact ha2, r2, n2, n02, nd2⟩
  · have hj' : (l.sl.set i (.own co'))[j]? = some s := hj
    have hk' : (l.sl.set i (.own co'))[k]? = some t := hk
    have back : ∀ {m : Nat} {u : Slot}, (l.sl.set i (.own co'))[m]? = some u → isOwn u = true → ∃ u', l.sl[m]? = some u' ∧ isOwn u' = true := fun {m u} hm ou => by
      by_cases z : m = i
      · subst z
        exact ⟨_, h, rfl⟩
      · rw [List.getElem?_set_ne (Ne.symm z)] at hm
        exact ⟨u, hm, ou⟩
    obtain ⟨s', hs', os'⟩ := back hj' os
    obtain ⟨t', ht', ot'⟩ := back hk' ot
    exact R.dis j k s' t' b hs' ht' os' ot' ej ek
  · obtain ⟨e1, e2, e3⟩ := R.frame b u h1
    exact ⟨by rw [upd_ne (fun z => by rw [z, n0] at h1; cases h1)]; exact e1, e2, e3⟩
  · exact R.dice.poke nd
end
end Dx

/-! Dx.Expr: expressions that give data. -/
namespace Dx
open PySem PySem.Spec PyProof.Rows L2

/-- an exception, in the heap that is seen -/
def RX (c : Cn) (ad : Ad) (Hf : Hp) (x : XC) (cls : Value) (dd : Option Addr) : Prop :=
  cls = .ref (c.cA x.c) ∧ (x.args = [] ∨ ∃ d a v, x.args = [d] ∧ dd = some a ∧ Hf a = some (.xd [(c.xf x.c, v)]) ∧ RVal c ad Hf d v)
def wpR {α : Type} (r : Res α) (P : α → LSt → Prop) (X : XC → LSt → Prop) : Prop := match r with
  | .ok a l => P a l
  | .ex x l => X x l
  | .bad => False
def PX (c : Ac) (W : WX) (σ : L2.St) (Hf : Hp) : XC → LSt → Prop := fun x l' => ∀ cls dd H' Hf', REnv c Hf' σ H' l' → Same Hf Hf' → RX c.toCn c.ad Hf' x cls dd → W cls dd σ H'
def PD (c : Ac) (σ : L2.St) (Q : VK) (Hf : Hp) : D → LSt → Prop := fun d l' => ∀ v H' Hf', REnv c Hf' σ H' l' → Same Hf Hf' → RVal c.toCn c.ad Hf' d v → Q v H'
def PB (c : Ac) (σ : L2.St) (Q : Bool → Hp → Prop) (Hf : Hp) : Bool → LSt → Prop := fun b l' => ∀ H' Hf', REnv c Hf' σ H' l' → Same Hf Hf' → Q b H'
def PA' (c : Ac) (σ : L2.St) (Q : List V → Hp → Prop) (Hf : Hp) : List D → LSt → Prop := fun ds l' => ∀ vs H' Hf', REnv c Hf' σ H' l' → Same Hf Hf' → RVals c.toCn c.ad Hf' ds vs → Q vs H'
/-- a fresh cell -/
def PO' (c : Ac) (σ : L2.St) (Q : VK) (Hf : Hp) : CO → LSt → Prop := fun co l' => ∀ a o H' Hf', REnv c Hf' σ H' l' → Same Hf Hf' → H' a = some o → RCO c.toCn c.ad Hf' co o → Hf' a = none → c.hid a = none → ¬ isD l'.g c.ad a →
  (∀ (j : Nat) (s : Slot), l'.sl[j]? = some s → isOwn s = true → σ[j]? ≠ some (some (.ref a))) → Q (.ref a) H'
def tD (c : Ac) (W : WX) (f : LSt → Res D) : TE := fun σ H Q => ∃ Hf l, REnv c Hf σ H l ∧ wpR (f l) (PD c σ Q Hf) (PX c W σ Hf)
def tB (c : Ac) (W : WX) (f : LSt → Res Bool) : TT := fun σ H Q => ∃ Hf l, REnv c Hf σ H l ∧ wpR (f l) (PB c σ Q Hf) (PX c W σ Hf)
def tA (c : Ac) (W : WX) (f : LSt → Res (List D)) : TA := fun σ H Q => ∃ Hf l, REnv c Hf σ H l ∧ wpR (f l) (PA' c σ Q Hf) (PX c W σ Hf)
def tO (c : Ac) (W : WX) (f : LSt → Res CO) : TE := fun σ H Q => ∃ Hf l, REnv c Hf σ H l ∧ wpR (f l) (PO' c σ Q Hf) (PX c W σ Hf)
structure DE (X : Cx) (c : Ac) (W : WX) (e : Expr) (f : LSt → Res D) : Prop where pe : PE X e (tD c W f)
structure DT (X : Cx) (c : Ac) (W : WX) (e : Expr) (f : LSt → Res Bool) : Prop where pt : PT X e (tB c W f)
structure DA (X : Cx) (c : Ac) (W : WX) (es : List Expr) (f : LSt → Res (List D)) : Prop where pa : PA X es (tA c W f)
structure DO (X : Cx) (c : Ac) (W : WX) (e : Expr) (f : LSt → Res CO) : Prop where pe : PE X e (tO c W f)
/-- a test within and, or -/
structure DW (X : Cx) (c : Ac) (W : WX) (e : Expr) (f : LSt → Res Bool) : Prop where pw : PW X e (tB c W f)

theorem PX.mono {c : Ac} {W : WX} {σ : L2.St} {Hf Hf1 : Hp} (s : Same Hf Hf1) {x : XC} {l : LSt} (h : PX c W σ Hf x l) : PX c W σ Hf1 x l := fun cls dd H' Hf' R s' r => h cls dd H' Hf' R (s.trans s') r
/-- a wish that stands as more is seen -/
def Mono {α : Type} (P : Hp → α → LSt → Prop) : Prop := ∀ Hf Hf1, Same Hf Hf1 → ∀ a l, P Hf a l → P Hf1 a l
theorem PD.mo {c : Ac} {σ : L2.St} {Q : VK} : Mono (PD c σ Q) := fun _ _ s _ _ h v H' Hf' R s' r => h v H' Hf' R (s.trans s') r
theorem PB.mo {c : Ac} {σ : L2.St} {Q : Bool → Hp → Prop} : Mono (PB c σ Q) := fun _ _ s _ _ h H' Hf' R s' => h H' Hf' R (s.trans s')
theorem PA'.mo {c : Ac} {σ : L2.St} {Q : List V → Hp → Prop} : Mono (PA' c σ Q) := fun _ _ s _ _ h v H' Hf' R s' r => h v H' Hf' R (s.trans s') r
theorem PO'.mo {c : Ac} {σ : L2.St} {Q : VK} : Mono (PO' c σ Q) := fun _ _ s _ _ h a o H' Hf' R s' => h a o H' Hf' R (s.trans s')
theorem wpR.mono {α : Type} {P : Hp → α → LSt → Prop} (mo : Mono P) {c : Ac} {W : WX} {σ : L2.St} {Hf Hf1 : Hp} (s : Same Hf Hf1) : ∀ {r : Res α}, wpR r (P Hf) (PX c W σ Hf) → wpR r (P Hf1) (PX c W σ Hf1)
  | .ok a l, h => mo _ _ s a l h
  | .ex x l, h => PX.mono s h
  | .bad, h => h
section
variable {c : Ac} {W : WX} {Hf H : Hp} {σ : L2.St} {l : LSt} {β : Type} {P : Hp → β → LSt → Prop}
theorem run_bind {f : LSt → Res D} {k : D → LSt → Res β} {Q : VK} (mo : Mono P) (R : REnv c Hf σ H l) (h : wpR ((f l).bind k) (P Hf) (PX c W σ Hf))
    (hk : ∀ d l1 v H1 Hf1, REnv c Hf1 σ H1 l1 → Same Hf Hf1 → RVal c.toCn c.ad Hf1 d v → wpR (k d l1) (P Hf1) (PX c W σ Hf1) → Q v H1) : tD c W f σ H Q := by
  refine ⟨Hf, l, R, ?_⟩
  cases e : f l with
  | ok d l1 =>
    rw [e] at h
    exact fun v H1 Hf1 R1 s1 r1 => hk d l1 v H1 Hf1 R1 s1 r1 (wpR.mono mo s1 h)
  | ex x l1 =>
    rw [e] at h
    exact h
  | bad =>
    rw [e] at h
    exact h
theorem run_bindB {f : LSt → Res Bool} {k : Bool → LSt → Res β} {Q : Bool → Hp → Prop} (mo : Mono P) (R : REnv c Hf σ H l) (h : wpR ((f l).bind k) (P Hf) (PX c W σ Hf))
    (hk : ∀ d l1 H1 Hf1, REnv c Hf1 σ H1 l1 → Same Hf Hf1 → wpR (k d l1) (P Hf1) (PX c W σ Hf1) → Q d H1) : tB c W f σ H Q := by
  refine ⟨Hf, l, R, ?_⟩
  cases e : f l with
  | ok d l1 =>
    rw [e] at h
    exact fun H1 Hf1 R1 s1 => hk d l1 H1 Hf1 R1 s1 (wpR.mono mo s1 h)
  | ex x l1 =>
    rw [e] at h
    exact h
  | bad =>
    rw [e] at h
    exact h
theorem run_bindA {f : LSt → Res (List D)} {k : List D → LSt → Res β} {Q : List V → Hp → Prop} (mo : Mono P) (R : REnv c Hf σ H l) (h : wpR ((f l).bind k) (P Hf) (PX c W σ Hf))
    (hk : ∀ ds l1 vs H1 Hf1, REnv c Hf1 σ H1 l1 → Same Hf Hf1 → RVals c.toCn c.ad Hf1 ds vs → wpR (k ds l1) (P Hf1) (PX c W σ Hf1) → Q vs H1) : tA c W f σ H Q := by
  refine ⟨Hf, l, R, ?_⟩
  cases e : f l with
  | ok d l1 =>
    rw [e] at h
    exact fun v H1 Hf1 R1 s1 r1 => hk d l1 v H1 Hf1 R1 s1 r1 (wpR.mono mo s1 h)
  | ex x l1 =>
    rw [e] at h
    exact h
  | bad =>
    rw [e] at h
    exact h
theorem run_bindO {f : LSt → Res CO} {k : CO → LSt → Res β} {Q : VK} (mo : Mono P) (R : REnv c Hf σ H l) (h : wpR ((f l).bind k) (P Hf) (PX c W σ Hf))
    (hk : ∀ co l1, wpR (k co l1) (P Hf) (PX c W σ Hf) → PO' c σ Q Hf co l1) : tO c W f σ H Q := by
  refine ⟨Hf, l, R, ?_⟩
  cases e : f l with
  | ok d l1 =>
    rw [e] at h
    exact hk d l1 h
  | ex x l1 =>
    rw [e] at h
    exact h
  | bad =>
    rw [e] at h
    exact h
end
theorem _root_.L2.PE.imp' {X : Cx} {e : Expr} {t t' : TE} (p : PE X e t) (h : ∀ σ H Q, t' σ H Q → t σ H Q) : PE X e t' := ⟨fun pins s σ H Q I q => p.run pins s σ H Q I (h σ H Q q)⟩
theorem _root_.L2.PT.imp' {X : Cx} {e : Expr} {t t' : TT} (p : PT X e t) (h : ∀ σ H Q, t' σ H Q → t σ H Q) : PT X e t' := ⟨fun pins s σ H Q I q => p.run pins s σ H Q I (h σ H Q q)⟩
theorem _root_.L2.PW.imp' {X : Cx} {e : Expr} {t t' : TT} (p : PW X e t) (h : ∀ σ H Q, t' σ H Q → t σ H Q) : PW X e t' := ⟨fun w pins s σ H Q I q => p.run w pins s σ H Q I (h σ H Q q)⟩
theorem _root_.L2.PA.imp' {X : Cx} {e : List Expr} {t t' : TA} (p : PA X e t) (h : ∀ σ H Q, t' σ H Q → t σ H Q) : PA X e t' := ⟨fun ps pins s σ H Q I q => p.run ps pins s σ H Q I (h σ H Q q)⟩
theorem _root_.L2.PS.imp' {X : Cx} {e : Stmt} {t t' : TS} (p : PS X e t) (h : ∀ D σ H, t' D σ H → t D σ H) : PS X e t' := ⟨fun pins s σ H D I q => p.run pins s σ H D I (h D σ H q)⟩
theorem _root_.L2.PSs.imp' {X : Cx} {e : List Stmt} {t t' : TS} (p : PSs X e t) (h : ∀ D σ H, t' D σ H → t D σ H) : PSs X e t' := ⟨fun pins s σ H D I q => p.run pins s σ H D I (h D σ H q)⟩

/-! ### what is done, by data -/
def sC (d : D) : LSt → Res D := fun l => .ok d l
def sVar (i : Nat) : LSt → Res D := fun l => match l.sl[i]? with
  | some (.v d) => .ok d l
  | some (.own co) => .ok co.d (l.put i (.v co.d))
  | _ => .bad
def opt {α : Type} (o : Option α) (l : LSt) : Res α := match o with
  | some d => .ok d l
  | none => .bad
def sBin (g : D → D → Option D) (a b : LSt → Res D) : LSt → Res D := fun l => (a l).bind fun x l => (b l).bind fun y l => opt (g x y) l
def sUn (g : D → Option D) (a : LSt → Res D) : LSt → Res D := fun l => (a l).bind fun x l => opt (g x) l

section
variable {X : Cx} {c : Ac} {W : WX} {a b e : Expr} {pos : Pos} {fa fb : LSt → Res D}
theorem de_flat {v : V} {d : D} (p : PE X e (tC v)) (r : ∀ Hf, RVal c.toCn c.ad Hf d v) : DE X c W e (sC d) :=
  ⟨p.imp' fun σ H Q ⟨Hf, l, R, h⟩ => h v H Hf R (Same.refl _) (r Hf)⟩
theorem de_int {i : Int} {j : Nat} : DE X c W (.Constant (.int i) j pos) (sC (.int i)) := de_flat pe_int fun _ => rfl
theorem de_bl {i : Bool} {j : Nat} : DE X c W (.Constant (.bool i) j pos) (sC (.bl i)) := de_flat pe_bl fun _ => rfl
theorem de_non {j : Nat} : DE X c W (.Constant .none j pos) (sC .non) := de_flat pe_non fun _ => rfl
theorem de_str {x : Str} {j : Nat} : DE X c W (.Constant (.str x) j pos) (sC (.str x)) := de_flat pe_str fun _ => rfl
theorem de_var {i : Nat} {x : Str} (p : PE X (.Name x pos) (tVar i)) : DE X c W (.Name x pos) (sVar i) :=
  ⟨p.imp' fun σ H Q ⟨Hf, l, R, h⟩ => by
    unfold sVar at h
    cases e : l.sl[i]? with
    | none =>
      rw [e] at h
      exact h.elim
    | some s =>
      rw [e] at h
      cases s with
      | un => exact h.elim
      | slf => exact h.elim
      | v d =>
        obtain ⟨v, ev, r⟩ := R.val e
        exact ⟨v, ev, h v H Hf R (Same.refl _) r⟩
      | own co =>
        obtain ⟨v, Hf', ev, R', s', r⟩ := R.freeze e
        exact ⟨v, ev, h v H Hf' R' s' r⟩⟩
/-- an operation by values is one by data -/
def BinOk (c : Ac) (r : R2) (g : D → D → Option D) : Prop :=
  ∀ (Hf H : Hp) (σ : L2.St) (l : LSt) (d1 d2 d : D) (x y : V) (Q : VK), REnv c Hf σ H l → RVal c.toCn c.ad Hf d1 x → RVal c.toCn c.ad Hf d2 y → g d1 d2 = some d → PD c σ Q Hf d l → r x y H Q
theorem bin_run {r : R2} {g : D → D → Option D} (ok : BinOk c r g) (ha : ∀ σ H Q, tD c W fa σ H Q → True) {σ : L2.St} {H : Hp} {Q : VK} (h : tD c W (sBin g fa fb) σ H Q) : tOp r (tD c W fa) (tD c W fb) σ H Q := by
  obtain ⟨Hf, l, R, h⟩ := h
  refine run_bind PD.mo R h fun d1 l1 x H1 Hf1 R1 s1 r1 h1 => ?_
  refine run_bind PD.mo R1 h1 fun d2 l2 y H2 Hf2 R2 s2 r2 h2 => ?_
  cases e : g d1 d2 with
  | none =>
    rw [e] at h2
    exact h2.elim
  | some d =>
    rw [e] at h2
    exact ok Hf2 H2 σ l2 d1 d2 d x y Q R2 (r1.mono s2) r2 e h2
theorem de_op {op : Operator} {r : R2} {g : D → D → Option D} (ho : OpR X (binaryOp op) r) (ok : BinOk c r g) (ha : DE X c W a fa) (hb : DE X c W b fb) : DE X c W (.BinOp a op b pos) (sBin g fa fb) :=
  ⟨(pe_op ho ha.pe hb.pe).imp' fun _ _ _ h => bin_run ok (fun _ _ _ _ => True.intro) h⟩
theorem de_cmp {op : CmpOp} {r : R2} {g : D → D → Option D} (ho : OpR X (compareOp op) r) (ok : BinOk c r g) (ha : DE X c W a fa) (hb : DE X c W b fb) (hm : behindInMarks op b = false) : DE X c W (.Compare a [op] [b] pos) (sBin g fa fb) :=
  ⟨(pe_cmpR ho ha.pe hb.pe hm).imp' fun _ _ _ h => bin_run ok (fun _ _ _ _ => True.intro) h⟩
def UnOk (c : Ac) (r : V → Hp → VK → Prop) (g : D → Option D) : Prop :=
  ∀ (Hf H : Hp) (σ : L2.St) (l : LSt) (d1 d : D) (x : V) (Q : VK), REnv c Hf σ H l → RVal c.toCn c.ad Hf d1 x → g d1 = some d → PD c σ Q Hf d l → r x H Q
theorem un_run {r : V → Hp → VK → Prop} {g : D → Option D} (ok : UnOk c r g) {σ : L2.St} {H : Hp} {Q : VK} (h : tD c W (sUn g fa) σ H Q) : tD c W fa σ H fun x H1 => r x H1 Q := by
  obtain ⟨Hf, l, R, h⟩ := h
  refine run_bind PD.mo R h fun d1 l1 x H1 Hf1 R1 s1 r1 h1 => ?_
  cases e : g d1 with
  | none =>
    rw [e] at h1
    exact h1.elim
  | some d =>
    rw [e] at h1
    exact ok Hf1 H1 σ l1 d1 d x Q R1 r1 e h1
theorem de_un {op : UnaryOp} {r : V → Hp → VK → Prop} {g : D → Option D} (ho : UnR X (unaryOp op) r) (ok : UnOk c r g) (ha : DE X c W a fa) : DE X c W (.UnaryOp op a pos) (sUn g fa) :=
  ⟨(pe_un ho ha.pe).imp' fun _ _ _ h => un_run ok h⟩
end
end Dx

/-! Dx.Ops: the operators, the subscripts and the built-in functions, by data. -/
namespace Dx
open PySem PySem.Spec PyProof.Rows L2

abbrev szL : Nat := 16777216
theorem szL_eq : szL = sizeLine := sizeLine_eq.symm
section
variable {c : Ac} {Hf H : Hp} {σ : L2.St} {l : LSt} {Q : VK}
theorem PD.flat {v : V} {d : D} (R : REnv c Hf σ H l) (q : PD c σ Q Hf d l) (r : RVal c.toCn c.ad Hf d v) : Q v H := q v H Hf R (Same.refl _) r
/-- a new object of the call's own, seen at once -/
theorem PD.new {p : Addr} {o : HO} {d : D} (R : REnv c Hf σ H l) (q : PD c σ Q Hf d l) (n : H p = none) (r : RVal c.toCn c.ad (upd Hf p o) d (.ref p)) : Q (.ref p) (upd H p o) :=
  q _ _ _ (R.alloc n) (same_upd (R.free n)) r
theorem RVal.tupNew {p : Addr} {ds : List D} {vs : List V} {cn : Cn} {ad : Ad} (n : Hf p = none) (r : RVals cn ad Hf ds vs) : RVal cn ad (upd Hf p (.tup vs)) (.tup ds) (.ref p) :=
  ⟨p, vs, rfl, .inl (.inl upd_same), r.mono (same_upd n)⟩
theorem RVal.lstNew {p : Addr} {ds : List D} {vs : List V} {cn : Cn} {ad : Ad} (n : Hf p = none) (r : RVals cn ad Hf ds vs) : RVal cn ad (upd Hf p (.lst vs)) (.lst ds) (.ref p) :=
  ⟨p, vs, rfl, upd_same, r.mono (same_upd n)⟩
theorem PD.mo' {Hf1 : Hp} {d : D} (s : Same Hf Hf1) (q : PD c σ Q Hf d l) : PD c σ Q Hf1 d l := PD.mo _ _ s _ _ q
end

/-! ### + - * // % ** -/
def mulOkB (i j : Int) : Bool := !(decide (Builtin.Int.intBits i > 64) && decide (Builtin.Int.intBits j > 64) && decide (Builtin.Int.intBits i + Builtin.Int.intBits j > 134217728))
theorem mulOk_of {i j : Int} (h : mulOkB i j = true) : IntMulOk i j := by
  unfold IntMulOk Builtin.Int.intTooBig
  unfold mulOkB at h
  intro z
  rw [show shortFactorBits = 64 from rfl] at z
  have e : bitsLine = 134217728 := by decide
  rw [e] at z
  simp only [Bool.and_eq_true, decide_eq_true_eq] at z
  simp only [Bool.not_eq_true', Bool.and_eq_false_iff, decide_eq_false_iff_not] at h
  omega
def addD : D → D → Option D
  | .int i, .int j => some (.int (i + j))
  | .int i, .bl k => some (.int (i + if k then 1 else 0))
  | .str x, .str y => if x.length + y.length ≤ szL then some (.str (x ++ y)) else none
  | .lst a, .lst b => if a.length + b.length ≤ szL then some (.lst (a ++ b)) else none
  | .tup a, .tup b => if a.length + b.length ≤ szL then some (.tup (a ++ b)) else none
  | _, _ => none
def subD : D → D → Option D
  | .int i, .int j => some (.int (i - j))
  | _, _ => none
def flatRep (k : Int) (a : List D) : List D := (List.replicate k.toNat a).flatten
def mulD : D → D → Option D
  | .int i, .int j => if mulOkB i j = true then some (.int (i * j)) else none
  | .lst a, .int k => if -(2 ^ 63) ≤ k ∧ k < 2 ^ 63 ∧ a.length * k.toNat ≤ szL then some (.lst (flatRep k a)) else none
  | .tup a, .int k => if a ≠ [] ∧ 2 ≤ k ∧ k ≤ 1000 ∧ a.length ≤ 1000 then some (.tup (flatRep k a)) else none
  | _, _ => none
def divD : D → D → Option D
  | .int i, .int j => if 0 < j ∧ j.natAbs.log2 < 9000 then some (.int (i / j)) else if j ≠ 0 ∧ j.natAbs.log2 < 9000 then some (.int (i.fdiv j)) else none
  | _, _ => none
def modD : D → D → Option D
  | .int i, .int j => if 0 < j then some (.int (i % j)) else if j ≠ 0 then some (.int (i.fmod j)) else none
  | _, _ => none
def powD : D → D → Option D
  | .int i, .int j => if 0 ≤ j ∧ j ≤ 1000000 ∧ i.natAbs < 2 ^ 64 then some (.int (i ^ j.toNat)) else none
  | _, _ => none

def rCatA (K : PySem.W.Frag) : R2 := fun x y H Q => ∃ a b xs ys, x = .ref a ∧ y = .ref b ∧ SqT K H a xs ∧ SqT K H b ys ∧ xs.length + ys.length ≤ sizeLine ∧
  (xs = [] → Q (.ref b) H) ∧ (xs ≠ [] → ys = [] → Q (.ref a) H) ∧ (xs ≠ [] → ys ≠ [] → ∀ p, H p = none → Q (.ref p) (upd H p (.tup (xs ++ ys))))
section
variable {X : Cx}
theorem op_catA : OpR X (binaryOp .Add) (rCatA X.K) := by
  intro pins s σ H x y v u Q I rx ry h
  obtain ⟨a, b, xs, ys, rfl, rfl, ha, hb, hz, q0, q1, q2⟩ := h
  by_cases hx : xs = []
  · subst hx
    cases rx
    cases ry
    obtain ⟨its, r, ht, _⟩ := I.tuple ha
    obtain ⟨its2, r2, ht2, _⟩ := I.tuple hb
    cases r
    exact cat_tup0 ht ht2 ⟨.ref b, H, I, rfl, q0 rfl⟩
  · exact op_catT pins s σ H _ _ v u Q I rx ry ⟨a, b, xs, ys, rfl, rfl, ha, hb, hx, hz, q1 hx, q2 hx⟩
def rAddA (K : PySem.W.Frag) : R2 := fun x y H Q => (∃ i j, x = .int i ∧ y = .int j ∧ Q (.int (i + j)) H) ∨ ((∃ i k, x = .int i ∧ y = .bl k ∧ Q (.int (i + b2i k)) H) ∨
  ((∃ i j, x = .str i ∧ y = .str j ∧ i.length + j.length ≤ sizeLine ∧ Q (.str (i ++ j)) H) ∨ (rCat x y H Q ∨ rCatA K x y H Q)))
theorem op_addA : OpR X (binaryOp .Add) (rAddA X.K) := op_add.or (op_add_ib.or (op_add_str.or (op_cat.or op_catA)))
def rMulA (K : PySem.W.Frag) : R2 := fun x y H Q => rI IntMulOk (fun i j => .int (i * j)) x y H Q ∨ (rRep x y H Q ∨ rRepT K x y H Q)
theorem op_mulI : OpR X (binaryOp .Mult) (rI IntMulOk fun i j => .int (i * j)) := opI fun _ _ _ _ _ _ _ hc q => mul_int q hc
theorem op_mulA : OpR X (binaryOp .Mult) (rMulA X.K) := op_mulI.or (op_rep.or op_repT)
def CDivA (i j : Int) : Prop := j ≠ 0 ∧ j.natAbs.log2 < 9000
theorem op_divA : OpR X (binaryOp .FloorDiv) (rI CDivA fun i j => .int (i.fdiv j)) := opI fun i j _ _ _ _ _ hc q => floordiv_int hc.1 q (.inl (PyProof.noPylong_of_log2 hc.2))
end
section
variable {c : Ac}
theorem ok_add (hK : ∃ K, c.K = K) : BinOk c (rAddA c.K) addD := by
  intro Hf H σ l d1 d2 d x y Q R r1 r2 e q
  cases d1 <;> cases d2 <;> simp only [addD, reduceCtorEq] at e
  · cases e
    rename_i i k
    exact .inr (.inl ⟨i, k, r1, r2, q.flat R (by cases k <;> rfl)⟩)
  · cases e
    rename_i i j
    exact .inl ⟨i, j, r1, r2, q.flat R rfl⟩
  · rename_i i j
    split at e
    · rename_i hz
      cases e
      exact .inr (.inr (.inl ⟨i, j, r1, r2, by rw [← szL_eq]; exact hz, q.flat R rfl⟩))
    · cases e
  · rename_i i j
    split at e
    · rename_i hz
      cases e
      obtain ⟨a, xs, rfl, h1, v1⟩ := r1
      obtain ⟨b, ys, rfl, h2, v2⟩ := r2
      rw [v1.length, v2.length] at hz
      refine .inr (.inr (.inr (.inr ⟨a, b, xs, ys, rfl, rfl, sameT R.sub h1, sameT R.sub h2, by rw [← szL_eq]; exact hz, fun z => ?_, fun _ z => ?_, fun _ _ p n => ?_⟩)))
      · subst z
        have := v1.length
        have e1 : i = [] := List.length_eq_zero_iff.mp this
        subst e1
        exact q.flat R ⟨b, ys, rfl, h2, v2⟩
      · subst z
        have := v2.length
        have e1 : j = [] := List.length_eq_zero_iff.mp this
        subst e1
        rw [List.append_nil] at q
        exact q.flat R ⟨a, xs, rfl, h1, v1⟩
      · exact q.new R n (RVal.tupNew (R.free n) (v1.append v2))
    · cases e
  · rename_i i j
    split at e
    · rename_i hz
      cases e
      obtain ⟨a, xs, rfl, h1, v1⟩ := r1
      obtain ⟨b, ys, rfl, h2, v2⟩ := r2
      rw [v1.length, v2.length] at hz
      exact .inr (.inr (.inr (.inl ⟨a, b, xs, ys, rfl, rfl, R.sub _ _ h1, R.sub _ _ h2, by rw [← szL_eq]; exact hz, fun p n => q.new R n (RVal.lstNew (R.free n) (v1.append v2))⟩)))
    · cases e
theorem ok_sub : BinOk c (rI0 fun i j => .int (i - j)) subD := by
  intro Hf H σ l d1 d2 d x y Q R r1 r2 e q
  cases d1 <;> cases d2 <;> simp only [subD, reduceCtorEq] at e
  cases e
  exact ⟨_, _, r1, r2, q.flat R rfl⟩
theorem flatRep_vals {cn : Cn} {ad : Ad} {H : Hp} {ds : List D} {vs : List V} (r : RVals cn ad H ds vs) : ∀ n : Nat, RVals cn ad H (List.replicate n ds).flatten (List.replicate n vs).flatten
  | 0 => rfl
  | n + 1 => by
    rw [List.replicate_succ, List.replicate_succ, List.flatten_cons, List.flatten_cons]
    exact r.append (flatRep_vals r n)
theorem ok_mul : BinOk c (rMulA c.K) mulD := by
  intro Hf H σ l d1 d2 d x y Q R r1 r2 e q
  cases d1 <;> cases d2 <;> simp only [mulD, reduceCtorEq] at e
  · split at e
    · rename_i hz
      cases e
      exact .inl ⟨_, _, r1, r2, mulOk_of hz, q.flat R rfl⟩
    · cases e
  · rename_i i j
    split at e
    · rename_i hz
      cases e
      obtain ⟨a, xs, rfl, h1, v1⟩ := r1
      refine .inr (.inr ⟨a, j, xs, rfl, r2, sameT R.sub h1, fun z => ?_, hz.2.1, hz.2.2.1, by rw [← v1.length]; exact hz.2.2.2, fun p n => q.new R n (RVal.tupNew (R.free n) (flatRep_vals v1 _))⟩)
      subst z
      exact hz.1 (List.length_eq_zero_iff.mp v1.length)
    · cases e
  · rename_i i j
    split at e
    · rename_i hz
      cases e
      obtain ⟨a, xs, rfl, h1, v1⟩ := r1
      exact .inr (.inl ⟨a, j, xs, rfl, r2, R.sub _ _ h1, hz.1, hz.2.1, by rw [← szL_eq, ← v1.length]; exact hz.2.2, fun p n => q.new R n (RVal.lstNew (R.free n) (flatRep_vals v1 _))⟩)
    · cases e
theorem ok_div : BinOk c (rI CDivA fun i j => .int (i.fdiv j)) divD := by
  intro Hf H σ l d1 d2 d x y Q R r1 r2 e q
  cases d1 <;> cases d2 <;> simp only [divD, reduceCtorEq] at e
  rename_i i j
  split at e
  · rename_i hz
    cases e
    refine ⟨i, j, r1, r2, ⟨by omega, hz.2⟩, q.flat R ?_⟩
    show V.int (i.fdiv j) = V.int (i / j)
    rw [Int.fdiv_eq_ediv_of_nonneg i (by omega)]
  · split at e
    · rename_i hz
      cases e
      exact ⟨i, j, r1, r2, hz, q.flat R rfl⟩
    · cases e
theorem ok_mod : BinOk c (rI (fun _ j => j ≠ 0) fun i j => .int (i.fmod j)) modD := by
  intro Hf H σ l d1 d2 d x y Q R r1 r2 e q
  cases d1 <;> cases d2 <;> simp only [modD, reduceCtorEq] at e
  rename_i i j
  split at e
  · rename_i hz
    cases e
    refine ⟨i, j, r1, r2, by omega, q.flat R ?_⟩
    show V.int (i.fmod j) = V.int (i % j)
    rw [Int.fmod_eq_emod_of_nonneg i (by omega)]
  · split at e
    · rename_i hz
      cases e
      exact ⟨i, j, r1, r2, hz, q.flat R rfl⟩
    · cases e
theorem ok_pow : BinOk c (rI CPow fun i j => .int (i ^ j.toNat)) powD := by
  intro Hf H σ l d1 d2 d x y Q R r1 r2 e q
  cases d1 <;> cases d2 <;> simp only [powD, reduceCtorEq] at e
  split at e
  · rename_i hz
    cases e
    exact ⟨_, _, r1, r2, hz, q.flat R rfl⟩
  · cases e
def negD : D → Option D
  | .int i => some (.int (-i))
  | _ => none
theorem ok_neg : UnOk c (rU fun i => .int (-i)) negD := by
  intro Hf H σ l d1 d x Q R r1 e q
  cases d1 <;> simp only [negD, reduceCtorEq] at e
  cases e
  exact ⟨_, r1, q.flat R rfl⟩
end

/-! ### comparisons -/
mutual
def D.pd : D → Option PyData
  | .non => some .none
  | .bl b => some (.bool b)
  | .int i => some (.int i)
  | .str x => some (.str x)
  | .tup ds => (D.pds ds).map .tuple
  | .lst ds => (D.pds ds).map .list
  | _ => none
def D.pds : List D → Option (List PyData)
  | [] => some []
  | d :: ds => match d.pd, D.pds ds with
    | some x, some xs => some (x :: xs)
    | _, _ => none
end
mutual
theorem pd_dp {cn : Cn} {ad : Ad} {H : Hp} : ∀ (d : D) (v : V) (p : PyData), RVal cn ad H d v → d.pd = some p → Dp cn.K H v p
  | .non, _, _, r, e => by
    simp only [D.pd] at e
    cases e
    cases r
    exact .non
  | .bl b, _, _, r, e => by
    simp only [D.pd] at e
    cases e
    cases r
    exact .bl b
  | .int i, _, _, r, e => by
    simp only [D.pd] at e
    cases e
    cases r
    exact .int i
  | .str i, _, _, r, e => by
    simp only [D.pd] at e
    cases e
    cases r
    exact .str i
  | .tup ds, _, p, ⟨a, vs, q, h, t⟩, e => by
    simp only [D.pd, Option.map_eq_some_iff] at e
    obtain ⟨ps, e1, e2⟩ := e
    subst e2 q
    exact .tup h (pds_dp ds vs ps t e1)
  | .lst ds, _, p, ⟨a, vs, q, h, t⟩, e => by
    simp only [D.pd, Option.map_eq_some_iff] at e
    obtain ⟨ps, e1, e2⟩ := e
    subst e2 q
    exact .lst (SqL.of h) (pds_dp ds vs ps t e1)
  | .dK _ _, _, _, _, e => by simp [D.pd] at e
  | .dT _ _, _, _, _, e => by simp [D.pd] at e
  | .ins _ _, _, _, _, e => by simp [D.pd] at e
  | .scr _, _, _, _, e => by simp [D.pd] at e
  | .ty _, _, _, _, e => by simp [D.pd] at e
  | .glo _, _, _, _, e => by simp [D.pd] at e
  | .dice, _, _, _, e => by simp [D.pd] at e

theorem pds_dp {cn : Cn} {ad : Ad} {H : Hp} : ∀ (ds : List D) (vs : List V) (ps : List PyData), RVals cn ad H ds vs → D.pds ds = some ps → DpAll cn.K H vs ps
  | [], _, _, r, e => by
    simp only [D.pds] at e
    cases e
    cases (show _ = [] from r)
    exact .nil
  | d :: ds, _, ps, ⟨v, r, q, h, t⟩, e => by
    subst q
    simp only [D.pds] at e
    split at e
    · rename_i x xs e1 e2
      cases e
      exact .cons (pd_dp d v x h e1) (pds_dp ds r xs t e2)
    · cases e
end
def eqD (d e : D) : Option D := match d.pd, e.pd with
  | some p, some q => if SeqAt.shaped p = true ∧ SeqAt.shaped q = true then some (.bl (PyData.eqv p q)) else none
  | _, _ => none
def neD (d e : D) : Option D := match d.pd, e.pd with
  | some p, some q => if SeqAt.shaped p = true ∧ SeqAt.shaped q = true then some (.bl (!PyData.eqv p q)) else none
  | _, _ => none
section
variable {c : Ac}
theorem ok_eq : BinOk c (rEqD c.K) eqD := by
  intro Hf H σ l d1 d2 d x y Q R r1 r2 e q
  unfold eqD at e
  split at e
  · rename_i p p2 e1 e2
    split at e
    · rename_i hz
      cases e
      exact ⟨p, p2, pd_dp _ _ _ (r1.mono R.sub) e1, pd_dp _ _ _ (r2.mono R.sub) e2, hz.1, hz.2, q.flat R rfl⟩
    · cases e
  · cases e
theorem ok_ne : BinOk c (rNeD c.K) neD := by
  intro Hf H σ l d1 d2 d x y Q R r1 r2 e q
  unfold neD at e
  split at e
  · rename_i p p2 e1 e2
    split at e
    · rename_i hz
      cases e
      exact ⟨p, p2, pd_dp _ _ _ (r1.mono R.sub) e1, pd_dp _ _ _ (r2.mono R.sub) e2, hz.1, hz.2, q.flat R rfl⟩
    · cases e
  · cases e
def cmpI (g : Int → Int → Bool) : D → D → Option D
  | .int i, .int j => some (.bl (g i j))
  | _, _ => none
theorem ok_cmpI {g : Int → Int → Bool} : BinOk c (rI0 fun i j => .bl (g i j)) (cmpI g) := by
  intro Hf H σ l d1 d2 d x y Q R r1 r2 e q
  cases d1 <;> cases d2 <;> simp only [cmpI, reduceCtorEq] at e
  cases e
  exact ⟨_, _, r1, r2, q.flat R rfl⟩
abbrev ltD := cmpI fun i j => decide (i < j)
abbrev leD := cmpI fun i j => decide (i ≤ j)
abbrev gtD := cmpI fun i j => decide (j < i)
abbrev geD := cmpI fun i j => decide (j ≤ i)
def isND : D → D → Option D
  | .non, .non => some (.bl true)
  | _, .non => some (.bl false)
  | _, _ => none
def notND : D → D → Option D
  | .non, .non => some (.bl false)
  | _, .non => some (.bl true)
  | _, _ => none
theorem RVal.nonIff {cn : Cn} {ad : Ad} {H : Hp} {d : D} {v : V} (r : RVal cn ad H d v) : (v = .non) ↔ (d = .non) := by
  constructor
  · intro e
    subst e
    cases d with
    | non => rfl
    | bl _ => cases (show V.non = V.bl _ from r)
    | int _ => cases (show V.non = V.int _ from r)
    | str _ => cases (show V.non = V.str _ from r)
    | tup _ => obtain ⟨_, _, e, _⟩ := r; cases e
    | lst _ => obtain ⟨_, _, e, _⟩ := r; cases e
    | dK _ _ => obtain ⟨_, _, e, _⟩ := r; cases e
    | dT _ _ => obtain ⟨_, _, e, _⟩ := r; cases e
    | ins _ _ => obtain ⟨_, _, _, e, _⟩ := r; cases e
    | scr _ => obtain ⟨_, e, _⟩ := r; cases e
    | ty _ => cases (show V.non = V.ty _ from r)
    | glo _ => cases (show V.non = V.ref _ from r)
    | dice => cases (show V.non = V.ref _ from r)

  · intro e
    subst e
    exact r
theorem ok_isN : BinOk c (fun x y H Q => y = .non ∧ Q (.bl (decide (x = .non))) H) isND := by
  intro Hf H σ l d1 d2 d x y Q R r1 r2 e q
  cases d2 with
  | non =>
    refine ⟨r2, q.flat R ?_⟩
    have i := r1.nonIff
    cases d1 <;> (simp only [isND] at e; cases e; show V.bl _ = V.bl _; congr 1; simp [i])
  | _ => cases d1 <;> simp [isND] at e
theorem ok_notN : BinOk c (fun x y H Q => y = .non ∧ Q (.bl (!decide (x = .non))) H) notND := by
  intro Hf H σ l d1 d2 d x y Q R r1 r2 e q
  cases d2 with
  | non =>
    refine ⟨r2, q.flat R ?_⟩
    have i := r1.nonIff
    cases d1 <;> (simp only [notND] at e; cases e; show V.bl _ = V.bl _; congr 1; simp [i])
  | _ => cases d1 <;> simp [notND] at e
end

/-! ### o[i] -/
def atD {α : Type} (xs : List α) (i : Int) : Option α := if 0 ≤ i then xs[i.toNat]? else if -(xs.length : Int) ≤ i then xs[(i + xs.length).toNat]? else none
theorem atD_atI {α : Type} {xs : List α} {i : Int} : atI xs i = atD xs i := by
  unfold atI atD ixN
  split
  · split
    · rfl
    · rename_i h1 h2
      rw [List.getElem?_eq_none (by omega)]
      rfl
  · split <;> rfl
def ixD : D → D → Option D
  | .tup ds, .int i => atD ds i
  | .lst ds, .int i => atD ds i
  | .scr ns, .int i => (atD ns i).map .int
  | .str z, .int i => if z.length ≤ szL then (atD z.cps.toList i).map fun c => .str ⟨#[c]⟩ else none
  | _, _ => none
theorem RVals.atD {cn : Cn} {ad : Ad} {H : Hp} {ds : List D} {vs : List V} {i : Int} {d : D} (r : RVals cn ad H ds vs) (e : atD ds i = some d) : ∃ v, atI vs i = some v ∧ RVal cn ad H d v := by
  rw [atD_atI]
  unfold Dx.atD at e ⊢
  rw [← r.length]
  split at e
  · rename_i h
    rw [if_pos h]
    exact r.get e
  · rename_i h
    rw [if_neg h]
    split at e
    · rename_i h2
      rw [if_pos h2]
      exact r.get e
    · cases e
section
variable {c : Ac}
theorem ok_ix : BinOk c (rIx c.K) ixD := by
  intro Hf H σ l d1 d2 d x y Q R r1 r2 e q
  cases d1 <;> cases d2 <;> simp only [ixD, reduceCtorEq] at e
  · split at e
    · rename_i hz
      rw [Option.map_eq_some_iff] at e
      obtain ⟨k, e1, e2⟩ := e
      subst e2
      exact .inr (.inr ⟨_, _, k, r1, r2, by rw [← szL_eq]; exact hz, by rw [atD_atI]; exact e1, q.flat R rfl⟩)
    · cases e
  · obtain ⟨a, vs, rfl, h, t⟩ := r1
    obtain ⟨v, e1, e2⟩ := t.atD e
    exact .inr (.inl ⟨a, vs, _, v, rfl, r2, sameT R.sub h, e1, q.flat R e2⟩)
  · obtain ⟨a, vs, rfl, h, t⟩ := r1
    obtain ⟨v, e1, e2⟩ := t.atD e
    exact .inl ⟨a, vs, _, v, rfl, r2, SqL.of (R.sub _ _ h), e1, q.flat R e2⟩
  · obtain ⟨a, rfl, h⟩ := r1
    rw [Option.map_eq_some_iff] at e
    obtain ⟨k, e1, e2⟩ := e
    subst e2
    rename_i ns i
    refine .inl ⟨a, ns.map V.int, i, .int k, rfl, r2, R.sub.seq h, ?_, q.flat R rfl⟩
    rw [atD_atI]
    unfold atD at e1 ⊢
    rw [List.length_map]
    split at e1
    · rename_i h1
      rw [if_pos h1, List.getElem?_map, e1]
      rfl
    · rename_i h1
      rw [if_neg h1]
      split at e1
      · rename_i h2
        rw [if_pos h2, List.getElem?_map, e1]
        rfl
      · cases e1
variable {X : Cx} {W : WX} {a b : Expr} {pos : Pos} {fa fb : LSt → Res D}
theorem de_ix (hK : X.K = c.K) (ha : DE X c W a fa) (hb : DE X c W b fb) (hs : PlainIx b) : DE X c W (.Subscript a b pos) (sBin ixD fa fb) :=
  ⟨(pe_ix (hK ▸ ix_seq) ha.pe hb.pe hs).imp' fun _ _ _ h => bin_run ok_ix (fun _ _ _ _ => True.intro) h⟩
end
end Dx

/-! Dx.Calls: tests, argument lists, displays, calls; what a def promises by data. -/
namespace Dx
open PySem PySem.Spec PyProof.Rows L2

/-! ### tests -/
def truD : D → Option Bool
  | .non => some false
  | .bl b => some b
  | .int i => some (i != 0)
  | .str y => if y.length ≤ szL then some ((y.length : Int) != 0) else none
  | .tup ds => some (!ds.isEmpty)
  | .lst ds => some (!ds.isEmpty)
  | .dK ks _ => some (!ks.isEmpty)
  | _ => none
def sTru (a : LSt → Res D) : LSt → Res Bool := fun l => (a l).bind fun d l => opt (truD d) l
def blD : D → Option Bool
  | .bl b => some b
  | _ => none
def sTst (a : LSt → Res D) : LSt → Res Bool := fun l => (a l).bind fun d l => opt (blD d) l
def sNot (a : LSt → Res Bool) : LSt → Res Bool := fun l => (a l).bind fun b l => .ok (!b) l
def sAnd (a b : LSt → Res Bool) : LSt → Res Bool := fun l => (a l).bind fun x l => if x = true then b l else .ok false l
def sOr (a b : LSt → Res Bool) : LSt → Res Bool := fun l => (a l).bind fun x l => if x = true then .ok true l else b l
def sIf {α : Type} (t : LSt → Res Bool) (a b : LSt → Res α) : LSt → Res α := fun l => (t l).bind fun x l => if x = true then a l else b l
def sVal (a : LSt → Res Bool) : LSt → Res D := fun l => (a l).bind fun b l => .ok (.bl b) l
theorem isEmpty_len {α β : Type} {xs : List α} {ys : List β} (h : xs.length = ys.length) : (!xs.isEmpty) = !ys.isEmpty := by
  cases xs <;> cases ys <;> first | rfl | (simp at h)
section
variable {c : Ac} {W : WX}
theorem tru_run {K : PySem.W.Frag} (hK : K = c.K) {fa : LSt → Res D} {σ : L2.St} {H : Hp} {Q : Bool → Hp → Prop} (h : tB c W (sTru fa) σ H Q) : tD c W fa σ H fun x H' => ∃ k, TruV K x H' k ∧ Q k H' := by
  subst hK
  obtain ⟨Hf, l, R, h⟩ := h
  refine run_bind PB.mo R h fun d l1 v H1 Hf1 R1 s1 r1 h1 => ?_
  cases e : truD d with
  | none =>
    rw [e] at h1
    exact h1.elim
  | some b =>
    rw [e] at h1
    refine ⟨b, ?_, h1 H1 Hf1 R1 (Same.refl _)⟩
    cases d <;> simp only [truD, reduceCtorEq] at e
    · cases r1
      cases e
      rfl
    · cases r1
      cases e
      rfl
    · cases r1
      cases e
      rfl
    · split at e
      · rename_i hz
        cases r1
        cases e
        exact ⟨by rw [← szL_eq]; exact hz, rfl⟩
      · cases e
    · cases e
      obtain ⟨a, vs, rfl, h2, t⟩ := r1
      exact .inr (.inl ⟨vs, sameT R1.sub h2, isEmpty_len t.length⟩)
    · cases e
      obtain ⟨a, vs, rfl, h2, t⟩ := r1
      exact .inl ⟨vs, SqL.of (R1.sub _ _ h2), isEmpty_len t.length⟩
    · cases e
      obtain ⟨a, vs, rfl, h2, hl, t⟩ := r1
      refine .inr (.inr ⟨_, R1.sub _ _ h2, isEmpty_len ?_⟩)
      rw [List.length_zip, ← hl, Nat.min_self]
theorem tst_run {fa : LSt → Res D} {σ : L2.St} {H : Hp} {Q : Bool → Hp → Prop} (h : tB c W (sTst fa) σ H Q) : tD c W fa σ H fun x H' => ∃ k, x = .bl k ∧ Q k H' := by
  obtain ⟨Hf, l, R, h⟩ := h
  refine run_bind PB.mo R h fun d l1 v H1 Hf1 R1 s1 r1 h1 => ?_
  cases d with
  | bl b => exact ⟨b, r1, h1 H1 Hf1 R1 (Same.refl _)⟩
  | _ => exact h1.elim
end
section
variable {X : Cx} {c : Ac} {W : WX} {a b e : Expr} {pos : Pos} {fa fb : LSt → Res D} {ta tb : LSt → Res Bool} {rest : List Expr}
theorem dt_tru (hK : X.K = c.K) (ha : DE X c W a fa) (he : ∀ whole, isTrue a X.env whole = (do let v ← whole; standAt a.pos; holding [v] (truthy v))) : DT X c W a (sTru fa) :=
  ⟨(pt_truth ha.pe he).imp' fun _ _ _ h => tru_run hK h⟩
theorem dt_cmp {op : CmpOp} {r : R2} {g : D → D → Option D} (ho : OpR X (compareOp op) r) (ok : BinOk c r g) (ha : DE X c W a fa) (hb : DE X c W b fb) (hm : behindInMarks op b = false) : DT X c W (.Compare a [op] [b] pos) (sTst (sBin g fa fb)) :=
  ⟨(pt_cmpR ho ha.pe hb.pe hm).imp' fun _ _ _ h => by
    obtain ⟨Hf, l, R, h⟩ := h
    refine bin_run ok (fun _ _ _ _ => True.intro) ⟨Hf, l, R, ?_⟩
    have h' : wpR ((sBin g fa fb l).bind fun d l => opt (blD d) l) (PB c _ _ Hf) (PX c W _ Hf) := h
    cases e : sBin g fa fb l with
    | bad =>
      rw [e] at h'
      exact h'
    | ex x l1 =>
      rw [e] at h'
      exact h'
    | ok d l1 =>
      rw [e] at h'
      cases d with
      | bl k => exact fun v H' Hf' R' s' r' => ⟨k, r', h' H' Hf' R' s'⟩
      | _ => exact h'.elim⟩
theorem dt_not (ha : DT X c W a ta) : DT X c W (.UnaryOp .Not a pos) (sNot ta) :=
  ⟨(pt_not ha.pt).imp' fun _ _ _ ⟨Hf, l, R, h⟩ => run_bindB PB.mo R h fun d l1 H1 Hf1 R1 s1 h1 => h1 H1 Hf1 R1 (Same.refl _)⟩
theorem dw_and1 (ha : DT X c W a ta) : DW X c W (.BoolOp .And [a] pos) ta := ⟨pw_and1 ha.pt⟩
theorem dw_or1 (ha : DT X c W a ta) : DW X c W (.BoolOp .Or [a] pos) ta := ⟨pw_or1 ha.pt⟩
theorem dw_and (ha : DT X c W a ta) (hb : DW X c W (.BoolOp .And (b :: rest) pos) tb) : DW X c W (.BoolOp .And (a :: b :: rest) pos) (sAnd ta tb) :=
  ⟨(pw_and ha.pt hb.pw).imp' fun _ _ _ ⟨Hf, l, R, h⟩ => run_bindB PB.mo R h fun d l1 H1 Hf1 R1 s1 h1 => by
    cases d with
    | true => exact ⟨Hf1, l1, R1, h1⟩
    | false => exact h1 H1 Hf1 R1 (Same.refl _)⟩
theorem dw_or (ha : DT X c W a ta) (hb : DW X c W (.BoolOp .Or (b :: rest) pos) tb) : DW X c W (.BoolOp .Or (a :: b :: rest) pos) (sOr ta tb) :=
  ⟨(pw_or ha.pt hb.pw).imp' fun _ _ _ ⟨Hf, l, R, h⟩ => run_bindB PB.mo R h fun d l1 H1 Hf1 R1 s1 h1 => by
    cases d with
    | false => exact ⟨Hf1, l1, R1, h1⟩
    | true => exact h1 H1 Hf1 R1 (Same.refl _)⟩
theorem dt_w (h : DW X c W e ta) : DT X c W e ta := ⟨h.pw.pt⟩
theorem de_ifExp {t : Expr} {tt : LSt → Res Bool} (ht : DT X c W t tt) (ha : DE X c W a fa) (hb : DE X c W b fb) : DE X c W (.IfExp t a b pos) (sIf tt fa fb) :=
  ⟨(pe_ifExp ht.pt ha.pe hb.pe).imp' fun _ _ _ ⟨Hf, l, R, h⟩ => run_bindB PD.mo R h fun d l1 H1 Hf1 R1 s1 h1 => by
    cases d with
    | true => exact ⟨Hf1, l1, R1, h1⟩
    | false => exact ⟨Hf1, l1, R1, h1⟩⟩
end

/-! ### argument lists, displays -/
def sNil : LSt → Res (List D) := fun l => .ok [] l
def sCons (a : LSt → Res D) (r : LSt → Res (List D)) : LSt → Res (List D) := fun l => (a l).bind fun x l => (r l).bind fun xs l => .ok (x :: xs) l
def seqD : D → Option (List D)
  | .tup ds => some ds
  | .lst ds => some ds
  | _ => none
def sTup (a : LSt → Res (List D)) : LSt → Res D := fun l => (a l).bind fun xs l => if xs.length ≤ szL then .ok (.tup xs) l else .bad
def sLst (a : LSt → Res (List D)) : LSt → Res CO := fun l => (a l).bind fun xs l => if xs.length ≤ szL then .ok (.lst xs) l else .bad
/-- a fresh cell, as data -/
def sFrz (a : LSt → Res CO) : LSt → Res D := fun l => (a l).bind fun co l => .ok co.d l
theorem REnv.see {c : Ac} {Hf H : Hp} {σ : L2.St} {l : LSt} (R : REnv c Hf σ H l) {a : Addr} {o : HO} (h : H a = some o) (n : Hf a = none) (n0 : c.hid a = none) (nd : ¬ isD l.g c.ad a)
    (fr : ∀ (j : Nat) (s : Slot), l.sl[j]? = some s → isOwn s = true → σ[j]? ≠ some (some (.ref a))) : REnv c (upd Hf a o) σ H l where
  len := R.len
  slot := fun j s hj => by
    obtain ⟨x, e, q⟩ := R.slot j s hj
    refine ⟨x, e, ?_⟩
    cases s with
    | un => exact True.intro
    | slf => exact q
    | v d =>
      obtain ⟨v, qv, rv⟩ := q
      exact ⟨v, qv, rv.mono (same_upd n)⟩
    | own co' =>
      obtain ⟨a', o', qa, ha', r', n', n0', nd'⟩ := q
      have ne : a' ≠ a := fun z => fr j _ hj rfl (by rw [e, qa, z])
      exact ⟨a', o', qa, ha', r'.mono (same_upd n), by rw [upd_ne ne]; exact n', n0', nd'⟩
  dis := R.dis
  sub := upd_sub R.sub h
  base := R.base.trans (same_upd n)
  frame := fun b u h1 => by
    obtain ⟨e1, e2, e3⟩ := R.frame b u h1
    have ne : b ≠ a := fun z => by rw [z, n0] at h1; cases h1
    rw [upd_ne ne]
    exact ⟨e1, e2, e3⟩
  dice := R.dice.seen nd n
  hgs := R.hgs
section
variable {X : Cx} {c : Ac} {W : WX} {a b e : Expr} {es : List Expr} {pos p : Pos} {fa fb : LSt → Res D} {fs : LSt → Res (List D)}
theorem da_nil : DA X c W [] sNil := ⟨pa_nil.imp' fun _ _ _ ⟨Hf, l, R, h⟩ => h [] _ Hf R (Same.refl _) .nil⟩
theorem da_cons (ha : DE X c W a fa) (hr : DA X c W es fs) (hs : starEach (a :: es) X.env = (false, eval a X.env) :: starEach es X.env := by rfl) : DA X c W (a :: es) (sCons fa fs) :=
  ⟨(pa_cons ha.pe hr.pa hs).imp' fun _ _ _ ⟨Hf, l, R, h⟩ => run_bind PA'.mo R h fun d l1 v H1 Hf1 R1 s1 r1 h1 => run_bindA PA'.mo R1 h1 fun ds l2 vs H2 Hf2 R2 s2 r2 h2 => h2 (v :: vs) H2 Hf2 R2 (Same.refl _) (.cons (r1.mono s2) r2)⟩
theorem de_tup {x1 : Nat} (h : DA X c W es fs) : DE X c W (.Tuple es x1 pos) (sTup fs) :=
  ⟨(pe_tup h.pa).imp' fun _ _ _ ⟨Hf, l, R, h⟩ => run_bindA PD.mo R h fun ds l1 vs H1 Hf1 R1 s1 r1 h1 => by
    split at h1
    · rename_i hz
      exact ⟨by rw [← szL_eq, ← r1.length]; exact hz, fun p n => PD.new R1 h1 n (RVal.tupNew (R1.free n) r1)⟩
    · exact h1.elim⟩
theorem do_new {σ : L2.St} {H : Hp} {l : LSt} {Hf : Hp} {Q : VK} {co : CO} {p : Addr} {o : HO} (R : REnv c Hf σ H l) (q : PO' c σ Q Hf co l) (n : H p = none) (r : RCO c.toCn c.ad Hf co o) : Q (.ref p) (upd H p o) := by
  refine q p o _ Hf (R.hid n) (Same.refl _) upd_same r (R.free n) ?_ ?_ ?_
  · cases e : c.hid p with
    | none => rfl
    | some u =>
      have := (R.frame p u e).1
      rw [n] at this
      cases this
  · exact R.dice.new n
  · intro j s hj ho e
    cases s with
    | own co' =>
      obtain ⟨a', o', e', ha', _⟩ := R.own hj
      rw [e'] at e
      cases e
      rw [n] at ha'
      cases ha'
    | _ => cases ho
theorem do_lst (h : DA X c W es fs) : DO X c W (.List es pos) (sLst fs) :=
  ⟨(pe_lst h.pa).imp' fun _ _ _ ⟨Hf, l, R, h⟩ => run_bindA PO'.mo R h fun ds l1 vs H1 Hf1 R1 s1 r1 h1 => by
    split at h1
    · rename_i hz
      exact ⟨by rw [← szL_eq, ← r1.length]; exact hz, fun p n => do_new R1 h1 n ⟨vs, rfl, r1⟩⟩
    · exact h1.elim⟩
theorem de_frz {fo : LSt → Res CO} (h : DO X c W e fo) : DE X c W e (sFrz fo) :=
  ⟨h.pe.imp' fun _ _ _ ⟨Hf, l, R, h⟩ => run_bindO PD.mo R h fun co l1 h1 => fun a o H' Hf' R' s' ha r n n0 nd fr => h1 _ H' _ (R'.see ha n n0 nd fr) (s'.trans (same_upd n)) (r.val n)⟩
end

/-! ### what a def promises -/
def REV (cn : Cn) (ad : Ad) (H Hf' H' : Hp) (g' : G) : EV → V → Prop
  | .v d, v => RVal cn ad Hf' d v
  | .o co, v => ∃ a o, v = .ref a ∧ H' a = some o ∧ RCO cn ad Hf' co o ∧ Hf' a = none ∧ H a = none ∧ ¬ isD g' ad a
structure Aft (cn : Cn) (ad : Ad) (g g' : G) (H Hf H' Hf' : Hp) : Prop where
  grow : Same Hf Hf'
  sub : Same Hf' H'
  frame : ∀ a o, H a = some o → Hf a = none → ¬ isD g ad a → H' a = some o ∧ Hf' a = none
  dice : DiceOk cn Hf' H' ad g'
  hgs : g'.sh = g.sh
def spF (cn : Cn) (m : Fm) : Sp := fun vs H Q E => ∃ (Hf : Hp) (ad : Ad) (ds : List D) (g : G), Same Hf H ∧ DiceOk cn Hf H ad g ∧ RVals cn ad Hf ds vs ∧
  match m ds g with
  | .ok e g' => ∀ v H' Hf', Aft cn ad g g' H Hf H' Hf' → REV cn ad H Hf' H' g' e v → Q v H'
  | .ex x g' => ∀ cls dd H' Hf', Aft cn ad g g' H Hf H' Hf' → RX cn ad Hf' x cls dd → E cls dd H'
  | .bad => False
theorem isD_iff {g g' : G} {ad : Ad} {a : Addr} (h : g'.sh = g.sh) : isD g' ad a ↔ isD g ad a := by
  unfold isD
  rw [h]
def LSt.withG (l : LSt) (g : G) : LSt := { l with g := g }
/-- behind a call -/
theorem REnv.after {c : Ac} {Hf H Hf' H' : Hp} {σ : L2.St} {l : LSt} {g' : G} (R : REnv c Hf σ H l) (A : Aft c.toCn c.ad l.g g' H Hf H' Hf') : REnv c Hf' σ H' (l.withG g') where
  len := R.len
  slot := fun j s hj => by
    obtain ⟨x, e, q⟩ := R.slot j s hj
    refine ⟨x, e, ?_⟩
    cases s with
    | un => exact True.intro
    | slf => exact q
    | v d =>
      obtain ⟨v, qv, rv⟩ := q
      exact ⟨v, qv, rv.mono A.grow⟩
    | own co' =>
      obtain ⟨a', o', qa, ha', r', n', n0', nd'⟩ := q
      obtain ⟨e1, e2⟩ := A.frame a' o' ha' n' nd'
      exact ⟨a', o', qa, e1, r'.mono A.grow, e2, n0', fun z => nd' ((isD_iff A.hgs).mp z)⟩
  dis := R.dis
  sub := A.sub
  base := R.base.trans A.grow
  frame := fun b u h1 => by
    obtain ⟨e1, e2, e3⟩ := R.frame b u h1
    obtain ⟨e4, e5⟩ := A.frame b u e1 e2 e3
    exact ⟨e4, e5, fun z => e3 ((isD_iff A.hgs).mp z)⟩
  dice := A.dice
  hgs := A.hgs.trans R.hgs
def sCall (m : Fm) (a : LSt → Res (List D)) : LSt → Res D := fun l => (a l).bind fun ds l => match m ds l.g with
  | .ok e g => .ok e.d (l.withG g)
  | .ex x g => .ex x (l.withG g)
  | .bad => .bad
def sCallO (m : Fm) (a : LSt → Res (List D)) : LSt → Res CO := fun l => (a l).bind fun ds l => match m ds l.g with
  | .ok (.o co) g => .ok co (l.withG g)
  | .ok (.v _) _ => .bad
  | .ex x g => .ex x (l.withG g)
  | .bad => .bad
section
variable {X : Cx} {c : Ac} {W : WX} {e : Expr} {es : List Expr} {pos p : Pos} {fs : LSt → Res (List D)} {m : Fm} {k : Nat} {f : Addr} {fd : FuncData} {ps : List Str} {x : Str}
theorem spF_of {σ : L2.St} {H Hf : Hp} {l : LSt} {Q : VK} {ds : List D} {vs : List V} (R : REnv c Hf σ H l) (r : RVals c.toCn c.ad Hf ds vs)
    (h : match m ds l.g with
      | .ok e g => PD c σ Q Hf e.d (l.withG g)
      | .ex x g => PX c W σ Hf x (l.withG g)
      | .bad => False) : spF c.toCn m vs H Q (WE W σ) := by
  refine ⟨Hf, c.ad, ds, l.g, R.sub, R.dice, r, ?_⟩
  cases e : m ds l.g with
  | bad =>
    rw [e] at h
    exact h
  | ex x g =>
    rw [e] at h
    exact fun cls dd H' Hf' A rx => h cls dd H' Hf' (R.after A) A.grow rx
  | ok ev g =>
    rw [e] at h
    intro v H' Hf' A rv
    cases ev with
    | v d => exact h v H' Hf' (R.after A) A.grow rv
    | o co =>
      obtain ⟨a, o, rfl, ha, rc, n, nH, nd⟩ := rv
      have R' := R.after A
      have n0 : c.hid a = none := by
        cases e0 : c.hid a with
        | none => rfl
        | some u =>
          have := (R.frame a u e0).1
          rw [nH] at this
          cases this
      refine h _ H' _ (R'.see ha n n0 nd ?_) (A.grow.trans (same_upd n)) (rc.val n)
      intro j s hj ho e'
      cases s with
      | own co' =>
        obtain ⟨a', o', e2, ha', _⟩ := R.own (i := j) hj
        rw [e2] at e'
        cases e'
        rw [nH] at ha'
        cases ha'
      | _ => cases ho
theorem spF_ofO {σ : L2.St} {H Hf : Hp} {l : LSt} {Q : VK} {ds : List D} {vs : List V} (R : REnv c Hf σ H l) (r : RVals c.toCn c.ad Hf ds vs)
    (h : match m ds l.g with
      | .ok (.o co) g => PO' c σ Q Hf co (l.withG g)
      | .ok (.v _) _ => False
      | .ex x g => PX c W σ Hf x (l.withG g)
      | .bad => False) : spF c.toCn m vs H Q (WE W σ) := by
  refine ⟨Hf, c.ad, ds, l.g, R.sub, R.dice, r, ?_⟩
  cases e : m ds l.g with
  | bad =>
    rw [e] at h
    exact h
  | ex x g =>
    rw [e] at h
    exact fun cls dd H' Hf' A rx => h cls dd H' Hf' (R.after A) A.grow rx
  | ok ev g =>
    rw [e] at h
    intro v H' Hf' A rv
    cases ev with
    | v d => exact h.elim
    | o co =>
      obtain ⟨a, o, rfl, ha, rc, n, nH, nd⟩ := rv
      have R' := R.after A
      have n0 : c.hid a = none := by
        cases e0 : c.hid a with
        | none => rfl
        | some u =>
          have := (R.frame a u e0).1
          rw [nH] at this
          cases this
      refine h a o H' Hf' R' A.grow ha rc n n0 nd ?_
      intro j s hj ho e'
      cases s with
      | own co' =>
        obtain ⟨a', o', e2, ha', _⟩ := R.own (i := j) hj
        rw [e2] at e'
        cases e'
        rw [nH] at ha'
        cases ha'
      | _ => cases ho
theorem de_call (F : FnOk X.prog X.w X.K X.mg X.base (L2.CX X.prog X.w) k f fd ps (spF c.toCn m)) (hr : Room k X.A) (tk : Takes X W) (hg : Gl X x) (hm : X.mg x = some (.ref f)) (hk : PySem.W.keepIn X.K (.ref f) = true) (hb : L2.Binds X.K fd ps [])
    (ha : DA X c W (e :: es) fs) (hdb : (x == ("__debug__" : Str)) = false := by decide) (he : starEach (e :: es) X.env = (false, eval e X.env) :: starEach es X.env := by rfl) (hpl : (backTo pos (starEach es X.env)).any (·.1) = false := by rfl) :
    DE X c W (.Call (.Name x p) (e :: es) [] pos) (sCall m fs) :=
  ⟨(pe_callS F hr hg hm hk hb (fun σ => passAt tk σ) ha.pa hdb he hpl).imp' fun σ H Q ⟨Hf, l, R, h⟩ => run_bindA PD.mo R h fun ds l1 vs H1 Hf1 R1 s1 r1 h1 => spF_of R1 r1 (by
    cases e : m ds l1.g with
    | ok ev g => rw [e] at h1; exact h1
    | ex x g => rw [e] at h1; exact h1
    | bad => rw [e] at h1; exact h1)⟩
theorem do_call (F : FnOk X.prog X.w X.K X.mg X.base (L2.CX X.prog X.w) k f fd ps (spF c.toCn m)) (hr : Room k X.A) (tk : Takes X W) (hg : Gl X x) (hm : X.mg x = some (.ref f)) (hk : PySem.W.keepIn X.K (.ref f) = true) (hb : L2.Binds X.K fd ps [])
    (ha : DA X c W (e :: es) fs) (hdb : (x == ("__debug__" : Str)) = false := by decide) (he : starEach (e :: es) X.env = (false, eval e X.env) :: starEach es X.env := by rfl) (hpl : (backTo pos (starEach es X.env)).any (·.1) = false := by rfl) :
    DO X c W (.Call (.Name x p) (e :: es) [] pos) (sCallO m fs) :=
  ⟨(pe_callS F hr hg hm hk hb (fun σ => passAt tk σ) ha.pa hdb he hpl).imp' fun σ H Q ⟨Hf, l, R, h⟩ => run_bindA PO'.mo R h fun ds l1 vs H1 Hf1 R1 s1 r1 h1 => spF_ofO R1 r1 (by
    cases e : m ds l1.g with
    | ok ev g =>
      rw [e] at h1
      cases ev with
      | v d => exact h1.elim
      | o co => exact h1
    | ex x g => rw [e] at h1; exact h1
    | bad => rw [e] at h1; exact h1)⟩
end
/-! ### built-in functions, by values -/
def BltOk (c : Ac) (r : List V → Hp → VK → Prop) (g : List D → Option D) : Prop :=
  ∀ (Hf H : Hp) (σ : L2.St) (l : LSt) (ds : List D) (d : D) (vs : List V) (Q : VK), REnv c Hf σ H l → RVals c.toCn c.ad Hf ds vs → g ds = some d → PD c σ Q Hf d l → r vs H Q
def sBlt (g : List D → Option D) (a : LSt → Res (List D)) : LSt → Res D := fun l => (a l).bind fun ds l => opt (g ds) l
theorem blt_run {c : Ac} {W : WX} {r : List V → Hp → VK → Prop} {g : List D → Option D} {fs : LSt → Res (List D)} (ok : BltOk c r g) {σ : L2.St} {H : Hp} {Q : VK} (h : tD c W (sBlt g fs) σ H Q) : tA c W fs σ H fun vs H1 => r vs H1 Q := by
  obtain ⟨Hf, l, R, h⟩ := h
  refine run_bindA PD.mo R h fun ds l1 vs H1 Hf1 R1 s1 r1 h1 => ?_
  cases e : g ds with
  | none =>
    rw [e] at h1
    exact h1.elim
  | some d =>
    rw [e] at h1
    exact ok Hf1 H1 σ l1 ds d vs Q R1 r1 e h1
end Dx

/-! Dx.Stm: statements, and a def's promise by its body. -/
namespace Dx
open PySem PySem.Spec PyProof.Rows L2

def REVa (c : Ac) (Hf' H' : Hp) (g' : G) : EV → V → Prop
  | .v d, v => RVal c.toCn c.ad Hf' d v
  | .o co, v => ∃ a o, v = .ref a ∧ H' a = some o ∧ RCO c.toCn c.ad Hf' co o ∧ Hf' a = none ∧ c.hid a = none ∧ ¬ isD g' c.ad a
/-- where a statement may end -/
def wpF (c : Ac) (W : WX) (D : Ends) (Hf : Hp) : Fl → Prop
  | .nx l => ∀ σ H Hf', REnv c Hf' σ H l → Same Hf Hf' → D.nx σ H
  | .rt e l => ∀ v σ H Hf', REnv c Hf' σ H l → Same Hf Hf' → REVa c Hf' H l.g e v → D.rt v H
  | .bk l => ∀ σ H Hf', REnv c Hf' σ H l → Same Hf Hf' → D.bk σ H
  | .ct l => ∀ σ H Hf', REnv c Hf' σ H l → Same Hf Hf' → D.ct σ H
  | .ex x l => ∀ cls dd σ H Hf', REnv c Hf' σ H l → Same Hf Hf' → RX c.toCn c.ad Hf' x cls dd → W cls dd σ H
  | .bad => False
theorem wpF.mo {c : Ac} {W : WX} {D : Ends} {Hf Hf1 : Hp} (s : Same Hf Hf1) : ∀ {f : Fl}, wpF c W D Hf f → wpF c W D Hf1 f
  | .nx l, h => fun σ H Hf' R s' => h σ H Hf' R (s.trans s')
  | .rt e l, h => fun v σ H Hf' R s' r => h v σ H Hf' R (s.trans s') r
  | .bk l, h => fun σ H Hf' R s' => h σ H Hf' R (s.trans s')
  | .ct l, h => fun σ H Hf' R s' => h σ H Hf' R (s.trans s')
  | .ex x l, h => fun cls dd σ H Hf' R s' r => h cls dd σ H Hf' R (s.trans s') r
  | .bad, h => h
def tS (c : Ac) (W : WX) (f : LSt → Fl) : TS := fun D σ H => ∃ Hf l, REnv c Hf σ H l ∧ wpF c W D Hf (f l)
structure DS (X : Cx) (c : Ac) (W : WX) (s : Stmt) (f : LSt → Fl) : Prop where ps : PS X s (tS c W f)
structure DSs (X : Cx) (c : Ac) (W : WX) (s : List Stmt) (f : LSt → Fl) : Prop where pss : PSs X s (tS c W f)

def Res.toFl {α : Type} (r : Res α) (k : α → LSt → Fl) : Fl := match r with
  | .ok a l => k a l
  | .ex x l => .ex x l
  | .bad => .bad
def Fl.seq (r : Fl) (k : LSt → Fl) : Fl := match r with
  | .nx l => k l
  | r => r
section
variable {c : Ac} {W : WX} {Hf H : Hp} {σ : L2.St} {l : LSt} {D : Ends}
theorem to_bind {f : LSt → Res Dx.D} {k : Dx.D → LSt → Fl} {Q : VK} (R : REnv c Hf σ H l) (h : wpF c W D Hf ((f l).toFl k))
    (hk : ∀ d l1 v H1 Hf1, REnv c Hf1 σ H1 l1 → Same Hf Hf1 → RVal c.toCn c.ad Hf1 d v → wpF c W D Hf1 (k d l1) → Q v H1) : tD c W f σ H Q := by
  refine ⟨Hf, l, R, ?_⟩
  cases e : f l with
  | ok d l1 =>
    rw [e] at h
    exact fun v H1 Hf1 R1 s1 r1 => hk d l1 v H1 Hf1 R1 s1 r1 (h.mo s1)
  | ex x l1 =>
    rw [e] at h
    exact fun cls dd H' Hf' R' s' r => h cls dd σ H' Hf' R' s' r
  | bad =>
    rw [e] at h
    exact h
theorem to_bindB {f : LSt → Res Bool} {k : Bool → LSt → Fl} {Q : Bool → Hp → Prop} (R : REnv c Hf σ H l) (h : wpF c W D Hf ((f l).toFl k))
    (hk : ∀ d l1 H1 Hf1, REnv c Hf1 σ H1 l1 → Same Hf Hf1 → wpF c W D Hf1 (k d l1) → Q d H1) : tB c W f σ H Q := by
  refine ⟨Hf, l, R, ?_⟩
  cases e : f l with
  | ok d l1 =>
    rw [e] at h
    exact fun H1 Hf1 R1 s1 => hk d l1 H1 Hf1 R1 s1 (h.mo s1)
  | ex x l1 =>
    rw [e] at h
    exact fun cls dd H' Hf' R' s' r => h cls dd σ H' Hf' R' s' r
  | bad =>
    rw [e] at h
    exact h
theorem to_bindA {f : LSt → Res (List Dx.D)} {k : List Dx.D → LSt → Fl} {Q : List V → Hp → Prop} (R : REnv c Hf σ H l) (h : wpF c W D Hf ((f l).toFl k))
    (hk : ∀ ds l1 vs H1 Hf1, REnv c Hf1 σ H1 l1 → Same Hf Hf1 → RVals c.toCn c.ad Hf1 ds vs → wpF c W D Hf1 (k ds l1) → Q vs H1) : tA c W f σ H Q := by
  refine ⟨Hf, l, R, ?_⟩
  cases e : f l with
  | ok d l1 =>
    rw [e] at h
    exact fun v H1 Hf1 R1 s1 r1 => hk d l1 v H1 Hf1 R1 s1 r1 (h.mo s1)
  | ex x l1 =>
    rw [e] at h
    exact fun cls dd H' Hf' R' s' r => h cls dd σ H' Hf' R' s' r
  | bad =>
    rw [e] at h
    exact h
theorem to_bindO {f : LSt → Res CO} {k : CO → LSt → Fl} {Q : VK} (R : REnv c Hf σ H l) (h : wpF c W D Hf ((f l).toFl k))
    (hk : ∀ co l1, wpF c W D Hf (k co l1) → PO' c σ Q Hf co l1) : tO c W f σ H Q := by
  refine ⟨Hf, l, R, ?_⟩
  cases e : f l with
  | ok d l1 =>
    rw [e] at h
    exact hk d l1 h
  | ex x l1 =>
    rw [e] at h
    exact fun cls dd H' Hf' R' s' r => h cls dd σ H' Hf' R' s' r
  | bad =>
    rw [e] at h
    exact h
end
/-! ### the statements, by data -/
def zSeq (a b : LSt → Fl) : LSt → Fl := fun l => (a l).seq b
def zSet (i : Nat) (e : LSt → Res D) : LSt → Fl := fun l => (e l).toFl fun d l => .nx (l.put i (.v d))
def zSetO (i : Nat) (e : LSt → Res CO) : LSt → Fl := fun l => (e l).toFl fun co l => .nx (l.put i (.own co))
def zDrop (e : LSt → Res D) : LSt → Fl := fun l => (e l).toFl fun _ l => .nx l
def zRet (e : LSt → Res D) : LSt → Fl := fun l => (e l).toFl fun d l => .rt (.v d) l
def zRetO (e : LSt → Res CO) : LSt → Fl := fun l => (e l).toFl fun co l => .rt (.o co) l
def zRetN : LSt → Fl := fun l => .rt (.v .non) l
/-- return x: a cell is handed out -/
def zRetV (i : Nat) : LSt → Fl := fun l => match l.sl[i]? with
  | some (.v d) => .rt (.v d) l
  | some (.own co) => .rt (.o co) (l.put i .un)
  | _ => .bad
def zIf (t : LSt → Res Bool) (a b : LSt → Fl) : LSt → Fl := fun l => (t l).toFl fun x l => if x = true then a l else b l
def zNext : LSt → Fl := fun l => .nx l
/-- while, at most n turns -/
def zWhile (t : LSt → Res Bool) (b : LSt → Fl) : Nat → LSt → Fl
  | 0, _ => .bad
  | n + 1, l => (t l).toFl fun x l => if x = true then (match b l with
      | .nx l => zWhile t b n l
      | .ct l => zWhile t b n l
      | .bk l => .nx l
      | r => r) else .nx l
/-- a target -/
abbrev Tgt := D → LSt → Option LSt
def gSet (i : Nat) : Tgt := fun d l => some (l.put i (.v d))
def gsNil : List D → LSt → Option LSt
  | [], l => some l
  | _, _ => none
def gsCons (t : Tgt) (r : List D → LSt → Option LSt) : List D → LSt → Option LSt
  | d :: ds, l => (t d l).bind fun l => r ds l
  | [], _ => none
def gTupD (n : Nat) (r : List D → LSt → Option LSt) : Tgt := fun d l => match d with
  | .tup ds => if ds.length = n then r ds l else none
  | _ => none
def optF (o : Option LSt) : Fl := match o with
  | some l => .nx l
  | none => .bad
def zAsg (e : LSt → Res D) (t : Tgt) : LSt → Fl := fun l => (e l).toFl fun d l => optF (t d l)
/-- for x in the items -/
def zFor (t : Tgt) (b : LSt → Fl) : List D → LSt → Fl
  | [], l => .nx l
  | d :: ds, l => match t d l with
    | none => .bad
    | some l => match b l with
      | .nx l => zFor t b ds l
      | .ct l => zFor t b ds l
      | .bk l => .nx l
      | r => r

section
variable {X : Cx} {c : Ac} {W : WX} {s : Stmt} {ss : List Stmt} {pos : Pos} {e : Expr} {fe : LSt → Res D} {fa fb : LSt → Fl}
theorem dss_nil : DSs X c W [] zNext := ⟨pss_nil.imp' fun D σ H ⟨Hf, l, R, h⟩ => h σ H Hf R (Same.refl _)⟩
theorem dss_cons (h1 : DS X c W s fa) (h2 : DSs X c W ss fb) : DSs X c W (s :: ss) (zSeq fa fb) :=
  ⟨(pss_cons h1.ps h2.pss).imp' fun D σ H ⟨Hf, l, R, h⟩ => by
    refine ⟨Hf, l, R, ?_⟩
    unfold zSeq at h
    cases e : fa l with
    | nx l1 =>
      rw [e] at h
      exact fun σ' H' Hf' R' s' => ⟨Hf', l1, R', h.mo s'⟩
    | rt ev l1 =>
      rw [e] at h
      exact h
    | bk l1 =>
      rw [e] at h
      exact h
    | ct l1 =>
      rw [e] at h
      exact h
    | ex x l1 =>
      rw [e] at h
      exact h
    | bad =>
      rw [e] at h
      exact h⟩
theorem dss_one (h1 : DS X c W s fa) : DSs X c W [s] fa := ⟨pss_one h1.ps⟩
theorem ds_pass : DS X c W (.Pass pos) zNext := ⟨ps_pass.imp' fun D σ H ⟨Hf, l, R, h⟩ => h σ H Hf R (Same.refl _)⟩
theorem ds_break : DS X c W (.Break pos) (fun l => .bk l) := ⟨ps_break.imp' fun D σ H ⟨Hf, l, R, h⟩ => h σ H Hf R (Same.refl _)⟩
theorem ds_continue : DS X c W (.Continue pos) (fun l => .ct l) := ⟨ps_continue.imp' fun D σ H ⟨Hf, l, R, h⟩ => h σ H Hf R (Same.refl _)⟩
theorem ds_expr (he : DE X c W e fe) (hs : swapsWith e none pos.line X.env = pure false := by rfl) : DS X c W (.Expr e pos) (zDrop fe) :=
  ⟨(ps_expr he.pe hs).imp' fun D σ H ⟨Hf, l, R, h⟩ => to_bind R h fun d l1 v H1 Hf1 R1 s1 r1 h1 => h1 σ H1 Hf1 R1 (Same.refl _)⟩
theorem ds_ret (he : DE X c W e fe) : DS X c W (.Return (some e) pos) (zRet fe) :=
  ⟨(ps_ret he.pe).imp' fun D σ H ⟨Hf, l, R, h⟩ => to_bind R h fun d l1 v H1 Hf1 R1 s1 r1 h1 => h1 v σ H1 Hf1 R1 (Same.refl _) r1⟩
theorem ds_retO {fo : LSt → Res CO} (he : DO X c W e fo) : DS X c W (.Return (some e) pos) (zRetO fo) :=
  ⟨(ps_ret he.pe).imp' fun D σ H ⟨Hf, l, R, h⟩ => to_bindO R h fun co l1 h1 => fun a o H' Hf' R' s' ha r n n0 nd fr => h1 _ σ H' Hf' R' s' ⟨a, o, rfl, ha, r, n, n0, nd⟩⟩
theorem ds_retN : DS X c W (.Return none pos) zRetN := ⟨ps_retN.imp' fun D σ H ⟨Hf, l, R, h⟩ => h .non σ H Hf R (Same.refl _) rfl⟩
/-- a slot is forgotten -/
theorem REnv.forget {Hf H : Hp} {σ : L2.St} {l : LSt} (R : REnv c Hf σ H l) (i : Nat) : REnv c Hf σ H (l.put i .un) where
  len := by
    show σ.length = (l.sl.set i .un).length
    rw [List.length_set]
    exact R.len
  slot := fun j s hj => by
    have hj' : (l.sl.set i .un)[j]? = some s := hj
    by_cases hji : j = i
    · subst hji
      have hl : j < l.sl.length := by
        have := (List.getElem?_eq_some_iff.mp hj').1
        rwa [List.length_set] at this
      rw [List.getElem?_set_self hl] at hj'
      cases hj'
      exact ⟨σ[j]'(by rw [R.len]; exact hl), List.getElem?_eq_getElem _, True.intro⟩
    · rw [List.getElem?_set_ne (Ne.symm hji)] at hj'
      exact R.slot j s hj'
  dis := fun j k s t b hj hk os ot ej ek => by
    have back : ∀ {m : Nat} {u : Slot}, (l.sl.set i .un)[m]? = some u → isOwn u = true → l.sl[m]? = some u := fun {m u} hm ou => by
      by_cases z : m = i
      · subst z
        have hl : m < l.sl.length := by
          have := (List.getElem?_eq_some_iff.mp hm).1
          rwa [List.length_set] at this
        rw [List.getElem?_set_self hl] at hm
        cases hm
        cases ou
      · rw [List.getElem?_set_ne (Ne.symm z)] at hm
        exact hm
    exact R.dis j k s t b (back hj os) (back hk ot) os ot ej ek
  sub := R.sub
  base := R.base
  frame := R.frame
  dice := R.dice
  hgs := R.hgs
theorem ds_retV {i : Nat} {x : Str} {p : Pos} (pv : PE X (.Name x p) (tVar i)) : DS X c W (.Return (some (.Name x p)) pos) (zRetV i) :=
  ⟨(ps_ret pv).imp' fun D σ H ⟨Hf, l, R, h⟩ => by
    unfold zRetV at h
    cases e : l.sl[i]? with
    | none =>
      rw [e] at h
      exact h.elim
    | some s =>
      rw [e] at h
      cases s with
      | un => exact h.elim
      | slf => exact h.elim
      | v d =>
        obtain ⟨v, ev, r⟩ := R.val e
        exact ⟨v, ev, h v σ H Hf R (Same.refl _) r⟩
      | own co =>
        obtain ⟨a, o, ea, ha, r, n, n0, nd⟩ := R.own e
        exact ⟨.ref a, ea, h _ σ H Hf (R.forget i) (Same.refl _) ⟨a, o, rfl, ha, r, n, n0, nd⟩⟩⟩
theorem ds_if {t : Expr} {tt : LSt → Res Bool} {sa sb : List Stmt} (ht : DT X c W t tt) (ha : DSs X c W sa fa) (hb : DSs X c W sb fb) : DS X c W (.If t sa sb pos) (zIf tt fa fb) :=
  ⟨(ps_if ht.pt ha.pss hb.pss).imp' fun D σ H ⟨Hf, l, R, h⟩ => to_bindB R h fun d l1 H1 Hf1 R1 s1 h1 => by
    cases d with
    | true => exact ⟨Hf1, l1, R1, h1⟩
    | false => exact ⟨Hf1, l1, R1, h1⟩⟩
theorem ds_while {t : Expr} {tt : LSt → Res Bool} {sb : List Stmt} (n : Nat) (hp : PassesOwn (model X.prog X.w) X.A X.env X.xe) (ht : DT X c W t tt) (hb : DSs X c W sb fb) : DS X c W (.While t sb [] pos) (zWhile tt fb n) :=
  ⟨(ps_while hp ht.pt hb.pss).imp' fun D σ H ⟨Hf, l, R, h⟩ => by
    refine ⟨fun m σ H => ∃ Hf l, REnv c Hf σ H l ∧ wpF c W D Hf (zWhile tt fb m l), ⟨n, Hf, l, R, h⟩, fun m σ H ⟨Hf, l, R, h⟩ => ?_⟩
    cases m with
    | zero => exact h.elim
    | succ m =>
      refine to_bindB R h fun d l1 H1 Hf1 R1 s1 h1 => ?_
      cases d with
      | false => exact h1 σ H1 Hf1 R1 (Same.refl _)
      | true =>
        refine ⟨fun σ' H' => ∃ Hf l, REnv c Hf σ' H' l ∧ wpF c W D Hf (zWhile tt fb m l), fun σ' H' q => ⟨m, Nat.lt_succ_self m, q⟩, Hf1, l1, R1, ?_⟩
        have h2 : wpF c W D Hf1 (match fb l1 with
          | .nx l => zWhile tt fb m l
          | .ct l => zWhile tt fb m l
          | .bk l => .nx l
          | r => r) := h1
        cases e : fb l1 with
        | nx l2 =>
          rw [e] at h2
          exact fun σ' H' Hf' R' s' => ⟨Hf', l2, R', h2.mo s'⟩
        | ct l2 =>
          rw [e] at h2
          exact fun σ' H' Hf' R' s' => ⟨Hf', l2, R', h2.mo s'⟩
        | bk l2 =>
          rw [e] at h2
          exact h2
        | rt ev l2 =>
          rw [e] at h2
          exact h2
        | ex x l2 =>
          rw [e] at h2
          exact h2
        | bad =>
          rw [e] at h2
          exact h2⟩
end
/-! ### targets -/
/-- two states that differ at the slots ws alone -/
def Off (ws : List Nat) (σ σ' : L2.St) : Prop := σ'.length = σ.length ∧ ∀ j, j ∉ ws → σ'[j]? = σ[j]?
theorem Off.refl (ws : List Nat) (σ : L2.St) : Off ws σ σ := ⟨rfl, fun _ _ => rfl⟩
theorem Off.trans {ws ws' : List Nat} {σ σ1 σ2 : L2.St} (a : Off ws σ σ1) (b : Off ws' σ1 σ2) : Off (ws ++ ws') σ σ2 :=
  ⟨b.1.trans a.1, fun j h => (b.2 j fun z => h (List.mem_append_right _ z)).trans (a.2 j fun z => h (List.mem_append_left _ z))⟩
structure DG (X : Cx) (c : Ac) (tg : Expr) (t : Tgt) (ws : List Nat) : Prop where
  ex : ∃ g : TG, PG X tg g ∧ ∀ (v : V) (σ : L2.St) (H : Hp) (Q : L2.St → Hp → Prop) (c' : Ac) (Hf : Hp) (l l' : LSt) (d : D), c'.toCn = c.toCn → REnv c' Hf σ H l → RVal c'.toCn c'.ad Hf d v → t d l = some l' → (∀ σ', REnv c' Hf σ' H l' → Off ws σ σ' → Q σ' H) → g v σ H Q
structure DGs (X : Cx) (c : Ac) (tgs : List Expr) (t : List D → LSt → Option LSt) (ws : List Nat) : Prop where
  ex : ∃ g : TGs, PGs X tgs g ∧ ∀ (vs : List V) (σ : L2.St) (H : Hp) (Q : L2.St → Hp → Prop) (c' : Ac) (Hf : Hp) (l l' : LSt) (ds : List D), c'.toCn = c.toCn → REnv c' Hf σ H l → RVals c'.toCn c'.ad Hf ds vs → t ds l = some l' → (∀ σ', REnv c' Hf σ' H l' → Off ws σ σ' → Q σ' H) → g vs σ H Q
section
variable {X : Cx} {c : Ac} {W : WX} {e tg : Expr} {es : List Expr} {pos : Pos} {t : Tgt} {ts : List D → LSt → Option LSt} {fe : LSt → Res D} {fb : LSt → Fl} {ws ws' : List Nat}
theorem dg_name {i : Nat} {x : Str} (p : PG X (.Name x pos) (gName i)) : DG X c (.Name x pos) (gSet i) [i] :=
  ⟨_, p, fun v σ H Q c' Hf l l' d hc R r e k => by
    cases e
    exact k _ (R.store r) ⟨List.length_set .., fun j hj => List.getElem?_set_ne (fun z => hj (by rw [z]; exact List.mem_singleton.mpr rfl))⟩⟩
theorem dgs_nil : DGs X c [] gsNil [] := ⟨_, pgs_nil, fun vs σ H Q c' Hf l l' ds hc R r e k => by
  cases ds with
  | nil =>
    cases e
    exact ⟨r, k _ R (Off.refl _ _)⟩
  | cons _ _ => cases e⟩
theorem dgs_cons (h1 : DG X c e t ws) (h2 : DGs X c es ts ws') (hs : (assignEach (e :: es) X.env).map (·.2) = assign e X.env :: (assignEach es X.env).map (·.2) := by rfl) : DGs X c (e :: es) (gsCons t ts) (ws ++ ws') := by
  obtain ⟨g, p, hg⟩ := h1.ex
  obtain ⟨gs, ps, hgs⟩ := h2.ex
  refine ⟨_, pgs_cons p ps hs, fun vs σ H Q c' Hf l l' ds hc R r e k => ?_⟩
  cases ds with
  | nil => cases e
  | cons d ds =>
    obtain ⟨v, vr, e1, r1, r2⟩ := r
    have e' : (t d l).bind (fun l => ts ds l) = some l' := e
    cases e2 : t d l with
    | none =>
      rw [e2] at e'
      cases e'
    | some l1 =>
      rw [e2] at e'
      exact ⟨v, vr, e1, hg v σ H _ c' Hf l l1 d hc R r1 e2 fun σ' R' o1 => hgs vr σ' H Q c' Hf l1 l' ds hc R' r2 e' fun σ2 R2 o2 => k σ2 R2 (o1.trans o2)⟩
theorem dg_tup {k n : Nat} (hc : X.calm = true) (hK : X.K = c.K) (h : DGs X c es ts ws) (hn : (assignEach es X.env).length = n := by rfl) (hst : (assignEach es X.env).findIdx? (·.1) = none := by rfl) : DG X c (.Tuple es k pos) (gTupD n ts) ws := by
  obtain ⟨gs, ps, hgs⟩ := h.ex
  refine ⟨_, pg_tup hc ps hn hst, fun v σ H Q c' Hf l l' d hc' R r e k => ?_⟩
  cases d with
  | tup ds =>
    obtain ⟨a, vs, rfl, h1, r1⟩ := r
    have e' : (if ds.length = n then ts ds l else none) = some l' := e
    split at e'
    · rename_i hl
      refine ⟨a, vs, rfl, ?_, by rw [← r1.length]; exact hl, hgs vs σ H Q c' Hf l l' ds hc' R r1 e' k⟩
      rw [hK, ← hc']
      exact sameT R.sub h1
    · cases e'
  | _ => cases e
theorem ds_asg (he : DE X c W e fe) (hg : DG X c tg t ws) (hs : swapsWithSole [tg] e pos.line X.env = pure false := by rfl) (hw : swappedStores [tg] e X.env = pure none := by rfl)
    (h1 : (assignEach [tg] X.env).map (·.2) = [assign tg X.env] := by rfl) : DS X c W (.Assign [tg] e pos) (zAsg fe t) := by
  obtain ⟨g, p, h⟩ := hg.ex
  exact ⟨(ps_asg he.pe p hs hw h1).imp' fun D σ H ⟨Hf, l, R, hh⟩ => to_bind R hh fun d l1 v H1 Hf1 R1 s1 r1 h1 => by
    cases e2 : t d l1 with
    | none =>
      rw [e2] at h1
      exact h1.elim
    | some l2 =>
      rw [e2] at h1
      exact h v σ H1 D.nx c Hf1 l1 l2 d rfl R1 r1 e2 fun σ' R' _ => h1 σ' H1 Hf1 R' (Same.refl _)⟩
theorem ds_set {i : Nat} {x : Str} {p : Pos} (hg : PG X (.Name x p) (gName i)) (he : DE X c W e fe) (hs : swapsWithSole [.Name x p] e pos.line X.env = pure false := by rfl) (hw : swappedStores [.Name x p] e X.env = pure none := by rfl) : DS X c W (.Assign [.Name x p] e pos) (zSet i fe) :=
  ⟨(ps_asg he.pe hg hs hw).imp' fun D σ H ⟨Hf, l, R, hh⟩ => to_bind R hh fun d l1 v H1 Hf1 R1 s1 r1 h1 => h1 _ H1 Hf1 (R1.store r1) (Same.refl _)⟩
theorem ds_setO {i : Nat} {x : Str} {p : Pos} {fo : LSt → Res CO} (hg : PG X (.Name x p) (gName i)) (he : DO X c W e fo) (hs : swapsWithSole [.Name x p] e pos.line X.env = pure false := by rfl) (hw : swappedStores [.Name x p] e X.env = pure none := by rfl) : DS X c W (.Assign [.Name x p] e pos) (zSetO i fo) :=
  ⟨(ps_asg he.pe hg hs hw).imp' fun D σ H ⟨Hf, l, R, hh⟩ => to_bindO R hh fun co l1 h1 => fun a o H' Hf' R' s' ha r n n0 nd fr => h1 _ H' Hf' (R'.storeO ha r n n0 nd fr) s'⟩
/-- a, b = x, y -/
def zPar (i j : Nat) (fa : LSt → Res (List D)) : LSt → Fl := fun l => (fa l).toFl fun ds l => match ds with
  | [x, y] => .nx ((l.put i (.v x)).put j (.v y))
  | _ => .bad
theorem ds_par {i j : Nat} {x y : Str} {a b : Expr} {fa : LSt → Res (List D)} {px py pt : Pos} {kt k2 pt2} (hc : X.calm = true) (hN : X.N.Nodup) (hi : X.N[i]? = some x) (hj : X.N[j]? = some y) (hij : i ≠ j)
    (hx : X.env.scope.names.lookup x = some .local) (hy : X.env.scope.names.lookup y = some .local) (ha : DA X c W [a, b] fa)
    (hw : swappedStores [.Tuple [.Name x px, .Name y py] kt pt] (.Tuple [a, b] k2 pt2) X.env = pure (some [x, y]))
    (hs : swapsWithSole [.Tuple [.Name x px, .Name y py] kt pt] (.Tuple [a, b] k2 pt2) pos.line X.env = pure false := by rfl) :
    DS X c W (.Assign [.Tuple [.Name x px, .Name y py] kt pt] (.Tuple [a, b] k2 pt2) pos) (zPar i j fa) :=
  ⟨(ps_par hc hN hi hj hij hx hy ha.pa hw hs).imp' fun D σ H ⟨Hf, l, R, hh⟩ => to_bindA R hh fun ds l1 vs H1 Hf1 R1 s1 r1 h1 => by
    match ds, r1, h1 with
    | [d1, d2], ⟨v1, r, e, q1, v2, r', e', q2, e3⟩, h1 =>
      subst e e'
      cases (show _ = [] from e3)
      exact ⟨v1, v2, rfl, h1 _ H1 Hf1 ((R1.store q1).store q2) (Same.refl _)⟩
    | [], _, h1 => exact h1.elim
    | [_], _, h1 => exact h1.elim
    | _ :: _ :: _ :: _, _, h1 => exact h1.elim⟩
def zPar3 (i j k : Nat) (fa : LSt → Res (List D)) : LSt → Fl := fun l => (fa l).toFl fun ds l => match ds with
  | [x, y, z] => .nx (((l.put i (.v x)).put j (.v y)).put k (.v z))
  | _ => .bad
/-- name op= e -/
def zAug (i : Nat) (g : D → D → Option D) (fe : LSt → Res D) : LSt → Fl := fun l => match l.sl[i]? with
  | some (.v x) => (fe l).toFl fun y l => match g x y with
    | some d => .nx (l.put i (.v d))
    | none => .bad
  | _ => .bad
theorem ds_aug {i : Nat} {x : Str} {op : Operator} {r : TIp} {g : D → D → Option D} {p : Pos} (hN : X.N.Nodup) (hi : X.N[i]? = some x) (hx : Loc X.env.scope x) (he : DE X c W e fe) (ho : PIp X op r) (ok : BinOk c r g)
    (hf : X.fn x = true ∨ X.env.scope.names.lookup x = some .local := by first | exact .inl rfl | exact .inr rfl | assumption) : DS X c W (.AugAssign (.Name x p) op e pos) (zAug i g fe) :=
  ⟨(ps_aug hN hi hx he.pe ho hf).imp' fun D σ H ⟨Hf, l, R, hh⟩ => by
    unfold zAug at hh
    cases e : l.sl[i]? with
    | none =>
      rw [e] at hh
      exact hh.elim
    | some s =>
      rw [e] at hh
      cases s with
      | un => exact hh.elim
      | slf => exact hh.elim
      | own _ => exact hh.elim
      | v d0 =>
        obtain ⟨v, ev, rv⟩ := R.val e
        refine ⟨v, ev, to_bind R hh fun d l1 u H1 Hf1 R1 s1 r1 h1 => ?_⟩
        cases e2 : g d0 d with
        | none =>
          rw [e2] at h1
          exact h1.elim
        | some d' =>
          rw [e2] at h1
          exact ok Hf1 H1 σ l1 d0 d d' v u _ R1 (rv.mono s1) r1 e2 fun z H' Hf' R' s' r' => h1 _ H' Hf' (R'.store r') s'⟩
end

/-! ### a def's promise -/
def Fl.fr : Fl → FR
  | .nx l => .ok (.v .non) l.g
  | .rt e l => .ok e l.g
  | .ex x l => .ex x l.g
  | _ => .bad
def mOf (n k : Nat) (fb : LSt → Fl) : Fm := fun ds g => if ds.length = k then (fb ⟨ds.map .v ++ List.replicate (n - k) .un, g⟩).fr else .bad
section
variable {P : Program} {w : World} {K : PySem.W.Frag} {mg : Str → Option Value} {base : Heap}
open Classical in
/-- what is there at a call, but not seen -/
noncomputable def hidOf (H Hf : Hp) (g : G) (ad : Ad) : Hp := fun a => if Hf a = none ∧ ¬ isD g ad a then H a else none
theorem hidOf_some {H Hf : Hp} {g : G} {ad : Ad} {a : Addr} {o : HO} (h : hidOf H Hf g ad a = some o) : H a = some o ∧ Hf a = none ∧ ¬ isD g ad a := by
  unfold hidOf at h
  split at h
  · rename_i z
    exact ⟨h, z.1, z.2⟩
  · cases h
theorem hidOf_of {H Hf : Hp} {g : G} {ad : Ad} {a : Addr} {o : HO} (h : H a = some o) (n : Hf a = none) (d : ¬ isD g ad a) : hidOf H Hf g ad a = some o := by
  unfold hidOf
  rw [if_pos ⟨n, d⟩]
  exact h
theorem env_start {cn : Cn} {ad : Ad} {Hf H : Hp} {ds : List D} {vs : List V} {g : G} {N : List Str} (s : Same Hf H) (d : DiceOk cn Hf H ad g) (r : RVals cn ad Hf ds vs) :
    REnv { toCn := cn, hid := hidOf H Hf g ad, Hf0 := Hf, ad := ad, gs := g.sh } Hf (L2.start N vs) H ⟨ds.map .v ++ List.replicate (N.length - ds.length) .un, g⟩ where
  len := by
    unfold L2.start
    simp only [List.length_append, List.length_map, List.length_replicate]
    rw [r.length]
  slot := fun i x h => by
    have h' : (ds.map Slot.v ++ List.replicate (N.length - ds.length) Slot.un)[i]? = some x := h
    unfold L2.start
    by_cases hi : i < ds.length
    · rw [List.getElem?_append_left (by rw [List.length_map]; exact hi), List.getElem?_map, List.getElem?_eq_getElem hi] at h'
      cases h'
      obtain ⟨v, e1, e2⟩ := r.get (List.getElem?_eq_getElem hi)
      refine ⟨some v, ?_, v, rfl, e2⟩
      rw [List.getElem?_append_left (by rw [List.length_map, ← r.length]; exact hi), List.getElem?_map, e1]
      rfl
    · rw [List.getElem?_append_right (by rw [List.length_map]; omega), List.length_map, List.getElem?_replicate] at h'
      split at h'
      · rename_i hl
        cases h'
        refine ⟨none, ?_, True.intro⟩
        rw [List.getElem?_append_right (by rw [List.length_map, ← r.length]; omega), List.length_map, List.getElem?_replicate, ← r.length, if_pos hl]
      · cases h'
  dis := fun i j x y a h _ o _ _ _ => by
    have h' : (ds.map Slot.v ++ List.replicate (N.length - ds.length) Slot.un)[i]? = some x := h
    exfalso
    by_cases hi : i < ds.length
    · rw [List.getElem?_append_left (by rw [List.length_map]; exact hi), List.getElem?_map, List.getElem?_eq_getElem hi] at h'
      cases h'
      cases o
    · rw [List.getElem?_append_right (by rw [List.length_map]; omega), List.length_map, List.getElem?_replicate] at h'
      split at h'
      · cases h'
        cases o
      · cases h'
  sub := s
  base := Same.refl _
  frame := fun _ _ h => hidOf_some h
  dice := d
  hgs := rfl
end
end Dx

/-! Dx.Loops: what is walked; for; comprehensions. -/
namespace Dx
open PySem PySem.Spec PyProof.Rows L2

/-- J gives the items, one by one, as long as what was seen at its start is seen -/
def GoodIt (c : Ac) (J : It) (Hf1 : Hp) (ds : List D) : Prop := ∀ Hf σ H l, REnv c Hf σ H l → Same Hf1 Hf →
  (∀ (i : Nat) d, ds[i]? = some d → J.go i H ∧ ∀ x H', J.yld i H x H' → ∃ Hf', Same Hf Hf' ∧ RVal c.toCn c.ad Hf' d x ∧ (H' = H ∧ Hf' = Hf ∨ ∃ p o, H p = none ∧ H' = upd H p o ∧ Hf' = upd Hf p o)) ∧ J.stop ds.length H
def tI (c : Ac) (W : WX) (f : LSt → Res (List D)) : TI := fun σ H R => ∃ Hf l, REnv c Hf σ H l ∧ wpR (f l) (fun ds l' => ∀ J H' Hf', REnv c Hf' σ H' l' → Same Hf Hf' → GoodIt c J Hf' ds → R J H') (PX c W σ Hf)
structure DI (X : Cx) (c : Ac) (W : WX) (tg iter : Expr) (f : LSt → Res (List D)) : Prop where pi : PI X tg iter (tI c W f)
theorem _root_.L2.PI.imp' {X : Cx} {tg it : Expr} {t t' : TI} (p : PI X tg it t) (h : ∀ σ H R, t' σ H R → t σ H R) : PI X tg it t' := ⟨fun pins s σ H R I q => p.run pins s σ H R I (h σ H R q)⟩

theorem goodL {c : Ac} {Hf1 : Hp} {a : Addr} {vs : List V} {ds : List D} (h : Hf1 a = some (.lst vs)) (r : RVals c.toCn c.ad Hf1 ds vs) : GoodIt c (Itl c.K a) Hf1 ds := by
  intro Hf σ H l R s
  have hH : H a = some (.lst vs) := R.sub _ _ (s _ _ h)
  have hq : SqL c.K H a vs := SqL.of hH
  refine ⟨fun i d e => ?_, ⟨vs, hq, by rw [r.length]; exact Nat.le_refl _⟩⟩
  obtain ⟨v, ev, rv⟩ := r.get e
  refine ⟨⟨vs, v, hq, ev⟩, fun x H' y => ?_⟩
  obtain ⟨e1, y⟩ := y
  subst e1
  have e2 := y vs hq
  rw [ev] at e2
  cases e2
  exact ⟨Hf, Same.refl _, rv.mono s, .inl ⟨rfl, rfl⟩⟩
theorem goodT {c : Ac} {Hf1 : Hp} {a : Addr} {vs : List V} {ds : List D} {X : Cx} {pins : List (Addr × Obj)} {σ0 : L2.St} {H0 : Hp} {s0 : Shared} (_I : True) (h : SqT c.K Hf1 a vs) (r : RVals c.toCn c.ad Hf1 ds vs)
    (inj : ∀ H, Same Hf1 H → ∀ ws, SqT c.K H a ws → ws = vs) : GoodIt c (Itt c.K a) Hf1 ds := by
  intro Hf σ H l R s
  have hq : SqT c.K H a vs := sameT R.sub (sameT s h)
  refine ⟨fun i d e => ?_, ⟨vs, hq, by rw [r.length]; exact Nat.le_refl _⟩⟩
  obtain ⟨v, ev, rv⟩ := r.get e
  refine ⟨⟨vs, v, hq, ev⟩, fun x H' y => ?_⟩
  obtain ⟨e1, y⟩ := y
  subst e1
  have e2 := y vs hq
  rw [ev] at e2
  cases e2
  exact ⟨Hf, Same.refl _, rv.mono s, .inl ⟨rfl, rfl⟩⟩
theorem goodT' {c : Ac} {Hf1 : Hp} {a : Addr} {vs : List V} {ds : List D} (h : SqT c.K Hf1 a vs) (r : RVals c.toCn c.ad Hf1 ds vs) : GoodIt c (Itt c.K a) Hf1 ds := by
  intro Hf σ H l R s
  have hq : SqT c.K H a vs := sameT R.sub (sameT s h)
  refine ⟨fun i d e => ?_, ⟨vs, hq, by rw [r.length]; exact Nat.le_refl _⟩⟩
  obtain ⟨v, ev, rv⟩ := r.get e
  refine ⟨⟨vs, v, hq, ev⟩, fun x H' y => ?_⟩
  obtain ⟨e1, y⟩ := y
  subst e1
  have e2 := y vs hq
  rw [ev] at e2
  cases e2
  exact ⟨Hf, Same.refl _, rv.mono s, .inl ⟨rfl, rfl⟩⟩
def rangeD (lo : Int) (n : Nat) : List D := (List.range n).map fun i => D.int (lo + (i : Nat))
theorem goodR {c : Ac} {Hf1 : Hp} {lo : Int} {n : Nat} : GoodIt c (Itr lo n) Hf1 (rangeD lo n) := by
  intro Hf σ H l R s
  refine ⟨fun i d e => ?_, ?_⟩
  · unfold rangeD at e
    rw [List.getElem?_map] at e
    by_cases hi : i < n
    · rw [List.getElem?_range hi] at e
      cases e
      refine ⟨hi, fun x H' y => ?_⟩
      obtain ⟨e1, e2⟩ := y
      subst e1 e2
      exact ⟨Hf, Same.refl _, rfl, .inl ⟨rfl, rfl⟩⟩
    · rw [List.getElem?_eq_none (by rw [List.length_range]; omega)] at e
      cases e
  · show n ≤ (rangeD lo n).length
    unfold rangeD
    rw [List.length_map, List.length_range]
    exact Nat.le_refl _
/-! ### what is walked -/
def sItems (a : LSt → Res D) : LSt → Res (List D) := fun l => (a l).bind fun d l => opt (seqD d) l
def rng1D : List D → Option (List D)
  | [.int j] => if j.natAbs < 2 ^ 61 then some (rangeD 0 j.toNat) else none
  | _ => none
def rng2D : List D → Option (List D)
  | [.int i, .int j] => if i.natAbs < 2 ^ 61 ∧ j.natAbs < 2 ^ 61 then some (rangeD i (j - i).toNat) else none
  | _ => none
def enumD (k : Nat) : List D → List D
  | [] => []
  | d :: ds => .tup [.int (k : Nat), d] :: enumD (k + 1) ds
def enum1D : List D → Option (List D)
  | [.lst ds] => some (enumD 0 ds)
  | _ => none
def zipD : List D → List D → List D
  | d :: ds, e :: es => .tup [d, e] :: zipD ds es
  | _, _ => []
def zip2D : List D → Option (List D)
  | [.lst ds, .lst es] => some (zipD ds es)
  | _ => none
def sWalk (g : List D → Option (List D)) (a : LSt → Res (List D)) : LSt → Res (List D) := fun l => (a l).bind fun ds l => opt (g ds) l
theorem enumD_get : ∀ (ds : List D) (k i : Nat) (d : D), (enumD k ds)[i]? = some d → ∃ x, ds[i]? = some x ∧ d = .tup [.int ((k + i : Nat) : Int), x]
  | [], _, _, _, h => by simp [enumD] at h
  | e :: ds, k, 0, d, h => by
    simp [enumD] at h
    exact ⟨e, rfl, by rw [← h]; rfl⟩
  | e :: ds, k, i + 1, d, h => by
    simp [enumD] at h
    obtain ⟨x, e1, e2⟩ := enumD_get ds (k + 1) i d h
    exact ⟨x, by simpa using e1, by rw [e2, show k + 1 + i = k + (i + 1) by omega]⟩
theorem enumD_length : ∀ (ds : List D) (k : Nat), (enumD k ds).length = ds.length
  | [], _ => rfl
  | e :: ds, k => by
    simp [enumD, enumD_length ds (k + 1)]
theorem zipD_get : ∀ (ds es : List D) (i : Nat) (d : D), (zipD ds es)[i]? = some d → ∃ x y, ds[i]? = some x ∧ es[i]? = some y ∧ d = .tup [x, y]
  | [], _, _, _, h => by simp [zipD] at h
  | _ :: _, [], _, _, h => by simp [zipD] at h
  | a :: ds, b :: es, 0, d, h => by
    simp [zipD] at h
    exact ⟨a, b, rfl, rfl, h.symm⟩
  | a :: ds, b :: es, i + 1, d, h => by
    simp [zipD] at h
    obtain ⟨x, y, e1, e2, e3⟩ := zipD_get ds es i d h
    exact ⟨x, y, by simpa using e1, by simpa using e2, e3⟩
theorem zipD_length : ∀ (ds es : List D), (zipD ds es).length = min ds.length es.length
  | [], es => by simp [zipD]
  | _ :: _, [] => by simp [zipD]
  | _ :: ds, _ :: es => by
    simp [zipD, zipD_length ds es]
section
variable {X : Cx} {c : Ac} {W : WX} {tg e a b : Expr} {pos p : Pos} {fe : LSt → Res D} {fs : LSt → Res (List D)}
theorem di_list (hK : X.K = c.K) (he : DE X c W e fe) : DI X c W tg e (sItems fe) := by
  refine ⟨⟨fun pins s σ H R I h => ?_⟩⟩
  obtain ⟨Hf, l, RR, h⟩ := h
  have q := run_bind (Q := fun x H1 => (∃ a, x = .ref a ∧ (∃ xs, SqL X.K H1 a xs) ∧ R (Itl X.K a) H1) ∨ ∃ a, x = .ref a ∧ (∃ xs, SqT X.K H1 a xs) ∧ R (Itt X.K a) H1)
    (P := fun Hf ds l' => ∀ J H' Hf', REnv c Hf' σ H' l' → Same Hf Hf' → GoodIt c J Hf' ds → R J H') (fun Hf Hf1 s ds l h J H' Hf' R' s' g => h J H' Hf' R' (s.trans s') g) RR h fun d l1 v H1 Hf1 R1 s1 r1 h1 => by
      cases d with
      | tup ds =>
        obtain ⟨a, vs, rfl, ha, r⟩ := r1
        refine .inr ⟨a, rfl, ⟨vs, ?_⟩, ?_⟩
        · rw [hK]
          exact sameT R1.sub ha
        · rw [hK]
          exact h1 _ H1 Hf1 R1 (Same.refl _) (goodT' ha r)
      | lst ds =>
        obtain ⟨a, vs, rfl, ha, r⟩ := r1
        refine .inl ⟨a, rfl, ⟨vs, SqL.of (R1.sub _ _ ha)⟩, ?_⟩
        rw [hK]
        exact h1 _ H1 Hf1 R1 (Same.refl _) (goodL ha r)
      | _ => exact h1.elim
  refine thn (he.pe.run pins s σ H _ I q) fun v s1 ⟨x, H1, I1, r1, q1⟩ => ?_
  rcases q1 with ⟨a, e, ⟨xs, hq⟩, q⟩ | ⟨a, e, ⟨xs, hq⟩, q⟩
  · subst e
    cases r1
    obtain ⟨its, rv, p, hz⟩ := I1.list hq
    refine wpAny_pyIter_list p.isList ?_
    refine ⟨s1.heap.objs.size, [s1.heap.objs.size], _, _, H1, rfl, I1.kept (t' := s1.toks) fun b o e => Heap.get?_push_of_some _ e, turn_list a _, ⟨_, Heap.get?_push_size _ rfl, rfl, rfl⟩, fun b hb => ?_, q⟩
    have e : b = s1.heap.objs.size := by simpa using hb
    subst e
    exact I1.fpOk (Nat.le_refl _) (I1.hok.fresh (Nat.le_refl _))
  · subst e
    cases r1
    obtain ⟨its, rv, p, hz⟩ := I1.tuple hq
    refine wpAny_pyIter_tuple (show s1.heap.IsTuple a its.toArray from p) ?_
    refine ⟨s1.heap.objs.size, [s1.heap.objs.size], _, _, H1, rfl, I1.kept (t' := s1.toks) fun b o e => Heap.get?_push_of_some _ e, turn_tuple a _, ⟨_, Heap.get?_push_size _ rfl, rfl, rfl⟩, fun b hb => ?_, q⟩
    have e : b = s1.heap.objs.size := by simpa using hb
    subst e
    exact I1.fpOk (Nat.le_refl _) (I1.hok.fresh (Nat.le_refl _))
theorem walk_mo {σ : L2.St} {R : It → Hp → Prop} : Mono (fun Hf (ds : List D) l' => ∀ J H' Hf', REnv c Hf' σ H' l' → Same Hf Hf' → GoodIt c J Hf' ds → R J H') := fun Hf Hf1 s ds l h J H' Hf' R' s' g => h J H' Hf' R' (s.trans s') g
theorem di_range1 (hg : Gl X "range") (hm : X.mg "range" = none) (ha : DA X c W [a] fs) (hs : starEach [a] X.env = [(false, eval a X.env)] := by rfl) : DI X c W tg (.Call (.Name "range" p) [a] [] pos) (sWalk rng1D fs) :=
  ⟨(pi_range1 hg hm ha.pa hs).imp' fun σ H R ⟨Hf, l, RR, h⟩ => run_bindA walk_mo RR h fun ds l1 vs H1 Hf1 R1 s1 r1 h1 => by
    match ds, r1, h1 with
    | [.int j], ⟨v, r, e, q1, e2⟩, h1 =>
      subst e
      cases (show _ = [] from e2)
      have h2 : wpR (opt (if j.natAbs < 2 ^ 61 then some (rangeD 0 j.toNat) else none) l1) _ _ := h1
      split at h2
      · rename_i hz
        exact ⟨j, by rw [q1], by omega, by omega, h2 _ H1 Hf1 R1 (Same.refl _) goodR⟩
      · exact h2.elim
    | [], _, h1 => exact h1.elim
    | .non :: _, _, h1 => exact h1.elim
    | .bl _ :: _, _, h1 => exact h1.elim
    | .str _ :: _, _, h1 => exact h1.elim
    | .tup _ :: _, _, h1 => exact h1.elim
    | .lst _ :: _, _, h1 => exact h1.elim
    | .dK _ _ :: _, _, h1 => exact h1.elim
    | .dT _ _ :: _, _, h1 => exact h1.elim
    | .ins _ _ :: _, _, h1 => exact h1.elim
    | .scr _ :: _, _, h1 => exact h1.elim
    | .ty _ :: _, _, h1 => exact h1.elim
    | .glo _ :: _, _, h1 => exact h1.elim
    | .dice :: _, _, h1 => exact h1.elim

    | .int _ :: _ :: _, _, h1 => exact h1.elim⟩
theorem rng2_inv {ds xs : List D} (h : rng2D ds = some xs) : ∃ i j, ds = [.int i, .int j] ∧ (-(2 ^ 62) ≤ i ∧ i < 2 ^ 62 ∧ -(2 ^ 62) ≤ j ∧ j < 2 ^ 62) ∧ xs = rangeD i (j - i).toNat := by
  unfold rng2D at h
  split at h
  · rename_i i j
    split at h
    · rename_i hz
      cases h
      exact ⟨i, j, rfl, by omega, rfl⟩
    · cases h
  · cases h
theorem rvals2 {cn : Cn} {ad : Ad} {H : Hp} {d e : D} {vs : List V} (r : RVals cn ad H [d, e] vs) : ∃ x y, vs = [x, y] ∧ RVal cn ad H d x ∧ RVal cn ad H e y := by
  obtain ⟨x, r1, e1, q1, y, r2, e2, q2, e3⟩ := r
  subst e1 e2
  cases (show _ = [] from e3)
  exact ⟨x, y, rfl, q1, q2⟩
theorem rvals1 {cn : Cn} {ad : Ad} {H : Hp} {d : D} {vs : List V} (r : RVals cn ad H [d] vs) : ∃ x, vs = [x] ∧ RVal cn ad H d x := by
  obtain ⟨x, r1, e1, q1, e3⟩ := r
  subst e1
  cases (show _ = [] from e3)
  exact ⟨x, rfl, q1⟩
theorem di_range2 (hg : Gl X "range") (hm : X.mg "range" = none) (ha : DA X c W [a, b] fs) (hs : starEach [a, b] X.env = [(false, eval a X.env), (false, eval b X.env)] := by rfl) (hs2 : starEach [b] X.env = [(false, eval b X.env)] := by rfl) : DI X c W tg (.Call (.Name "range" p) [a, b] [] pos) (sWalk rng2D fs) :=
  ⟨(pi_range2 hg hm ha.pa hs hs2).imp' fun σ H R ⟨Hf, l, RR, h⟩ => run_bindA walk_mo RR h fun ds l1 vs H1 Hf1 R1 s1 r1 h1 => by
    cases e : rng2D ds with
    | none =>
      rw [e] at h1
      exact h1.elim
    | some xs =>
      rw [e] at h1
      obtain ⟨i, j, rfl, hz, rfl⟩ := rng2_inv e
      obtain ⟨x, y, rfl, q1, q2⟩ := rvals2 r1
      exact ⟨i, j, by rw [q1, q2], hz, h1 _ H1 Hf1 R1 (Same.refl _) goodR⟩⟩
theorem enum_inv {ds xs : List D} (h : enum1D ds = some xs) : ∃ es, ds = [.lst es] ∧ xs = enumD 0 es := by
  unfold enum1D at h
  split at h
  · rename_i es
    cases h
    exact ⟨es, rfl, rfl⟩
  · cases h
theorem goodE {c : Ac} {Hf1 : Hp} {a : Addr} {vs : List V} {ds : List D} (h : Hf1 a = some (.lst vs)) (r : RVals c.toCn c.ad Hf1 ds vs) : GoodIt c (Ite c.K a) Hf1 (enumD 0 ds) := by
  intro Hf σ H l R s
  have hq : SqL c.K H a vs := SqL.of (R.sub _ _ (s _ _ h))
  refine ⟨fun i d e => ?_, ⟨vs, hq, by rw [enumD_length, r.length]; exact Nat.le_refl _⟩⟩
  obtain ⟨x, ex, rfl⟩ := enumD_get ds 0 i d e
  obtain ⟨v, ev, rv⟩ := r.get ex
  refine ⟨⟨vs, v, hq, ev⟩, fun y H' hy => ?_⟩
  obtain ⟨T, z, rfl, n, rfl, q⟩ := hy
  have e2 := q vs hq
  rw [ev] at e2
  cases e2
  have nf := R.free n
  refine ⟨upd Hf T (.tup [.int (i : Nat), v]), same_upd nf, ?_, .inr ⟨T, _, n, rfl, rfl⟩⟩
  refine RVal.tupNew nf (.cons ?_ (.cons (rv.mono s) .nil))
  rw [Nat.zero_add]
  rfl
theorem di_enum {elts : List Expr} {kk : Nat} {tpos : Pos} (hK : X.K = c.K) (hg : Gl X "enumerate") (hm : X.mg "enumerate" = none) (ha : DA X c W [e] fs) (hs : starEach [e] X.env = [(false, eval e X.env)] := by rfl) : DI X c W (.Tuple elts kk tpos) (.Call (.Name "enumerate" p) [e] [] pos) (sWalk enum1D fs) :=
  ⟨(pi_enum hg hm ha.pa hs).imp' fun σ H R ⟨Hf, l, RR, h⟩ => run_bindA walk_mo RR h fun ds l1 vs H1 Hf1 R1 s1 r1 h1 => by
    cases e : enum1D ds with
    | none =>
      rw [e] at h1
      exact h1.elim
    | some xs =>
      rw [e] at h1
      obtain ⟨es, rfl, rfl⟩ := enum_inv e
      obtain ⟨x, rfl, q1⟩ := rvals1 r1
      obtain ⟨a, us, rfl, ha, r⟩ := q1
      rw [hK]
      exact ⟨a, us, rfl, SqL.of (R1.sub _ _ ha), h1 _ H1 Hf1 R1 (Same.refl _) (goodE ha r)⟩⟩
theorem zip_inv {ds xs : List D} (h : zip2D ds = some xs) : ∃ es fs, ds = [.lst es, .lst fs] ∧ xs = zipD es fs := by
  unfold zip2D at h
  split at h
  · rename_i es fs
    cases h
    exact ⟨es, fs, rfl, rfl⟩
  · cases h
theorem goodZ {c : Ac} {Hf1 : Hp} {a b : Addr} {vs us : List V} {ds es : List D} (h : Hf1 a = some (.lst vs)) (r : RVals c.toCn c.ad Hf1 ds vs) (h2 : Hf1 b = some (.lst us)) (r2 : RVals c.toCn c.ad Hf1 es us) : GoodIt c (Itz c.K a b) Hf1 (zipD ds es) := by
  intro Hf σ H l R s
  have hq : SqL c.K H a vs := SqL.of (R.sub _ _ (s _ _ h))
  have hq2 : SqL c.K H b us := SqL.of (R.sub _ _ (s _ _ h2))
  refine ⟨fun i d e => ?_, ⟨vs, us, hq, hq2, ?_⟩⟩
  · obtain ⟨x, y, ex, ey, rfl⟩ := zipD_get ds es i d e
    obtain ⟨v, ev, rv⟩ := r.get ex
    obtain ⟨u, eu, ru⟩ := r2.get ey
    refine ⟨⟨vs, us, v, u, hq, hq2, ev, eu⟩, fun y H' hy => ?_⟩
    obtain ⟨T, z, w, rfl, n, rfl, q, q2⟩ := hy
    have e2 := q vs hq
    rw [ev] at e2
    cases e2
    have e3 := q2 us hq2
    rw [eu] at e3
    cases e3
    have nf := R.free n
    exact ⟨upd Hf T (.tup [v, u]), same_upd nf, RVal.tupNew nf (.cons (rv.mono s) (.cons (ru.mono s) .nil)), .inr ⟨T, _, n, rfl, rfl⟩⟩
  · rw [zipD_length, ← r.length, ← r2.length]
    omega
theorem di_zip {elts : List Expr} {kk : Nat} {tpos : Pos} (hK : X.K = c.K) (hg : Gl X "zip") (hm : X.mg "zip" = none) (ha : DA X c W [a, b] fs)
    (hs : starEach [a, b] X.env = (false, eval a X.env) :: starEach [b] X.env := by rfl) (hpl : (backTo pos (starEach [b] X.env)).any (·.1) = false := by rfl) : DI X c W (.Tuple elts kk tpos) (.Call (.Name "zip" p) [a, b] [] pos) (sWalk zip2D fs) :=
  ⟨(pi_zip hg hm ha.pa hs hpl).imp' fun σ H R ⟨Hf, l, RR, h⟩ => run_bindA walk_mo RR h fun ds l1 vs H1 Hf1 R1 s1 r1 h1 => by
    cases e : zip2D ds with
    | none =>
      rw [e] at h1
      exact h1.elim
    | some xs =>
      rw [e] at h1
      obtain ⟨es, fs, rfl, rfl⟩ := zip_inv e
      obtain ⟨x, y, rfl, q1, q2⟩ := rvals2 r1
      obtain ⟨a, us, rfl, ha, r⟩ := q1
      obtain ⟨b, ws, rfl, hb, r2⟩ := q2
      rw [hK]
      exact ⟨a, b, us, ws, rfl, SqL.of (R1.sub _ _ ha), SqL.of (R1.sub _ _ hb), h1 _ H1 Hf1 R1 (Same.refl _) (goodZ ha r hb r2)⟩⟩
end
/-! ### for -/
def zForI (f : LSt → Res (List D)) (t : Tgt) (b : LSt → Fl) : LSt → Fl := fun l => (f l).toFl fun ds l => zFor t b ds l
theorem drop_get {α : Type} {xs : List α} {i : Nat} {x : α} (h : xs[i]? = some x) : xs.drop i = x :: xs.drop (i + 1) := by
  obtain ⟨hl, e⟩ := List.getElem?_eq_some_iff.mp h
  rw [List.drop_eq_getElem_cons hl, e]
theorem REnv.yield {c : Ac} {Hf H H' Hf' : Hp} {σ : L2.St} {l : LSt} (R : REnv c Hf σ H l) (h : H' = H ∧ Hf' = Hf ∨ ∃ p o, H p = none ∧ H' = upd H p o ∧ Hf' = upd Hf p o) : REnv c Hf' σ H' l := by
  rcases h with ⟨rfl, rfl⟩ | ⟨p, o, n, rfl, rfl⟩
  · exact R
  · exact R.alloc n
section
variable {X : Cx} {c : Ac} {W : WX} {tg it : Expr} {pos : Pos} {f : LSt → Res (List D)} {t : Tgt} {fb : LSt → Fl} {body : List Stmt} {ws : List Nat}
theorem ds_for (hp : PassesOwn (model X.prog X.w) X.A X.env X.xe) (hc : X.calm = true) (hi : DI X c W tg it f) (hg : DG X c tg t ws) (hb : DSs X c W body fb) (hs : ∀ x, foldedSetIterable it X.env x = pure x := by intro _; rfl) : DS X c W (.For tg it body [] pos) (zForI f t fb) := by
  obtain ⟨g, pg, hgg⟩ := hg.ex
  refine ⟨(ps_for hp hc hi.pi pg hb.pss hs).imp' fun D σ H ⟨Hf, l, R, h⟩ => ?_⟩
  refine ⟨Hf, l, R, ?_⟩
  unfold zForI at h
  cases e : f l with
  | bad =>
    rw [e] at h
    exact h
  | ex x l1 =>
    rw [e] at h
    exact fun cls dd H' Hf' R' s' r => h cls dd σ H' Hf' R' s' r
  | ok ds l1 =>
    rw [e] at h
    intro J H1 Hf1 R1 s1 good
    have h1 : wpF c W D Hf1 (zFor t fb ds l1) := wpF.mo s1 h
    refine ⟨fun i m σ H => m = ds.length - i ∧ i ≤ ds.length ∧ ∃ Hf l, REnv c Hf σ H l ∧ Same Hf1 Hf ∧ wpF c W D Hf (zFor t fb (ds.drop i) l), ⟨ds.length, rfl, Nat.zero_le _, Hf1, l1, R1, Same.refl _, h1⟩, fun i m σ H ⟨em, hle, Hf, l, R, s, h⟩ => ?_⟩
    obtain ⟨ggo, gst⟩ := good Hf σ H l R s
    by_cases hlt : i < ds.length
    · obtain ⟨go, yl⟩ := ggo i ds[i] (List.getElem?_eq_getElem hlt)
      refine .inr ⟨go, fun σ' H' => ∃ Hf l, REnv c Hf σ' H' l ∧ Same Hf1 Hf ∧ wpF c W D Hf (zFor t fb (ds.drop (i + 1)) l), fun σ' H' q => ⟨ds.length - (i + 1), by omega, rfl, hlt, q⟩, fun x H' hy => ?_⟩
      obtain ⟨Hf', sf, rv, hyl⟩ := yl x H' hy
      have R' := R.yield hyl
      rw [drop_get (List.getElem?_eq_getElem hlt)] at h
      unfold zFor at h
      cases e2 : t ds[i] l with
      | none =>
        rw [e2] at h
        exact h.elim
      | some l2 =>
        rw [e2] at h
        have h2 : wpF c W D Hf (match fb l2 with
          | .nx l => zFor t fb (ds.drop (i + 1)) l
          | .ct l => zFor t fb (ds.drop (i + 1)) l
          | .bk l => .nx l
          | r => r) := h
        refine hgg x σ H' _ c Hf' l l2 ds[i] rfl R' rv e2 fun σ2 R2 _ => ⟨Hf', l2, R2, ?_⟩
        have h3 := wpF.mo sf h2
        cases e3 : fb l2 with
        | nx l3 =>
          rw [e3] at h3
          exact fun σ' H' Hf2 R' s' => ⟨Hf2, l3, R', s.trans (sf.trans s'), h3.mo s'⟩
        | ct l3 =>
          rw [e3] at h3
          exact fun σ' H' Hf2 R' s' => ⟨Hf2, l3, R', s.trans (sf.trans s'), h3.mo s'⟩
        | bk l3 =>
          rw [e3] at h3
          exact h3
        | rt ev l3 =>
          rw [e3] at h3
          exact h3
        | ex x l3 =>
          rw [e3] at h3
          exact h3
        | bad =>
          rw [e3] at h3
          exact h3
    · have ei : i = ds.length := by omega
      subst ei
      rw [List.drop_length] at h
      exact .inl ⟨gst, h σ H Hf R (Same.refl _)⟩
end
end Dx

/-! Dx.Comp: list comprehensions. -/
namespace Dx
open PySem PySem.Spec PyProof.Rows L2

def LSt.wipeL (l : LSt) : List Nat → LSt
  | [] => l
  | v :: vs => (l.wipeL vs).put v .un
theorem wipeL_g (l : LSt) : ∀ vs, (l.wipeL vs).g = l.g
  | [] => rfl
  | v :: vs => wipeL_g l vs
theorem REnv.wipe {c : Ac} {Hf H : Hp} {σ : L2.St} {l : LSt} (R : REnv c Hf σ H l) : ∀ vs : List Nat, REnv c Hf (L2.wipe σ vs) H (l.wipeL vs)
  | [] => R
  | v :: vs => by
    have R1 := REnv.wipe R vs
    refine ⟨?_, fun j s hj => ?_, fun j k s t b hj hk os ot ej ek => ?_, R1.sub, R1.base, R1.frame, R1.dice, R1.hgs⟩
    · show ((L2.wipe σ vs).set v none).length = ((l.wipeL vs).sl.set v .un).length
      rw [List.length_set, List.length_set]
      exact R1.len
    · have hj' : ((l.wipeL vs).sl.set v .un)[j]? = some s := hj
      show ∃ x, ((L2.wipe σ vs).set v none)[j]? = some x ∧ _
      by_cases hjv : j = v
      · subst hjv
        have hl : j < (l.wipeL vs).sl.length := by
          have := (List.getElem?_eq_some_iff.mp hj').1
          rwa [List.length_set] at this
        rw [List.getElem?_set_self hl] at hj'
        cases hj'
        exact ⟨none, List.getElem?_set_self (by rw [R1.len]; exact hl), True.intro⟩
      · rw [List.getElem?_set_ne (Ne.symm hjv)] at hj'
        rw [List.getElem?_set_ne (Ne.symm hjv)]
        exact R1.slot j s hj'
    · have back : ∀ {m : Nat} {u : Slot}, ((l.wipeL vs).sl.set v .un)[m]? = some u → isOwn u = true → m ≠ v := fun {m u} hm ou z => by
        subst z
        have hl : m < (l.wipeL vs).sl.length := by
          have := (List.getElem?_eq_some_iff.mp hm).1
          rwa [List.length_set] at this
        rw [List.getElem?_set_self hl] at hm
        cases hm
        cases ou
      have n1 := back hj os
      have n2 := back hk ot
      have hj' : ((l.wipeL vs).sl.set v .un)[j]? = some s := hj
      have hk' : ((l.wipeL vs).sl.set v .un)[k]? = some t := hk
      have ej' : ((L2.wipe σ vs).set v none)[j]? = some (some (.ref b)) := ej
      have ek' : ((L2.wipe σ vs).set v none)[k]? = some (some (.ref b)) := ek
      rw [List.getElem?_set_ne (Ne.symm n1)] at hj' ej'
      rw [List.getElem?_set_ne (Ne.symm n2)] at hk' ek'
      exact R1.dis j k s t b hj' hk' os ot ej' ek'
theorem wipe_get (σ : L2.St) : ∀ (vs : List Nat) (j : Nat), j ∉ vs → (L2.wipe σ vs)[j]? = σ[j]?
  | [], _, _ => rfl
  | v :: vs, j, h => by
    show ((L2.wipe σ vs).set v none)[j]? = σ[j]?
    rw [List.getElem?_set_ne (fun z => h (by rw [z]; exact List.mem_cons_self))]
    exact wipe_get σ vs j fun z => h (List.mem_cons_of_mem _ z)
theorem wipe_at (σ : L2.St) : ∀ (vs : List Nat) (j : Nat), j ∈ vs → j < σ.length → (L2.wipe σ vs)[j]? = some none
  | v :: vs, j, h, hl => by
    show ((L2.wipe σ vs).set v none)[j]? = some none
    by_cases e : j = v
    · subst e
      exact List.getElem?_set_self (by rw [L2.wipe_length]; exact hl)
    · rw [List.getElem?_set_ne (Ne.symm e)]
      rcases List.mem_cons.mp h with z | z
      · exact absurd z e
      · exact wipe_at σ vs j z hl
theorem wipe_off {σ σ' : L2.St} {vs ws : List Nat} (h : Off ws σ σ') (sub : ∀ j ∈ ws, j ∈ vs) : L2.wipe σ' vs = L2.wipe σ vs := by
  apply List.ext_getElem?
  intro j
  by_cases hj : j ∈ vs
  · by_cases hl : j < σ.length
    · rw [wipe_at σ vs j hj hl, wipe_at σ' vs j hj (by rw [h.1]; exact hl)]
    · rw [List.getElem?_eq_none (by rw [L2.wipe_length, h.1]; omega), List.getElem?_eq_none (by rw [L2.wipe_length]; omega)]
  · rw [wipe_get σ vs j hj, wipe_get σ' vs j hj]
    exact h.2 j fun z => hj (sub j z)
theorem wipeL_at (l : LSt) : ∀ (vs : List Nat) (j : Nat) (s : Slot), j ∈ vs → (l.wipeL vs).sl[j]? = some s → s = .un
  | v :: vs, j, s, h, e => by
    have e' : ((l.wipeL vs).sl.set v .un)[j]? = some s := e
    by_cases q : j = v
    · subst q
      have hl : j < (l.wipeL vs).sl.length := by
        have := (List.getElem?_eq_some_iff.mp e').1
        rwa [List.length_set] at this
      rw [List.getElem?_set_self hl] at e'
      cases e'
      rfl
    · rw [List.getElem?_set_ne (Ne.symm q)] at e'
      rcases List.mem_cons.mp h with z | z
      · exact absurd z q
      · exact wipeL_at l vs j s z e'
theorem REnv.unwipe {c : Ac} {Hf H : Hp} {σ : L2.St} {l : LSt} {vs : List Nat} (R : REnv c Hf (L2.wipe σ vs) H l) (h : ∀ (j : Nat) (s : Slot), j ∈ vs → l.sl[j]? = some s → s = .un) : REnv c Hf σ H l where
  len := by
    have := R.len
    rw [L2.wipe_length] at this
    exact this
  slot := fun j s hj => by
    by_cases hv : j ∈ vs
    · have e := h j s hv hj
      subst e
      have hl : j < σ.length := by
        have h1 := (List.getElem?_eq_some_iff.mp hj).1
        have h2 := R.len
        rw [L2.wipe_length] at h2
        omega
      exact ⟨σ[j], List.getElem?_eq_getElem hl, True.intro⟩
    · obtain ⟨x, e, q⟩ := R.slot j s hj
      rw [wipe_get σ vs j hv] at e
      exact ⟨x, e, q⟩
  dis := fun j k s t b hj hk os ot ej ek => by
    have n : ∀ {m : Nat} {u : Slot}, l.sl[m]? = some u → isOwn u = true → m ∉ vs := fun {m u} hm ou z => by
      have e := h m u z hm
      subst e
      cases ou
    refine R.dis j k s t b hj hk os ot ?_ ?_
    · rw [wipe_get σ vs j (n hj os)]
      exact ej
    · rw [wipe_get σ vs k (n hk ot)]
      exact ek
  sub := R.sub
  base := R.base
  frame := R.frame
  dice := R.dice
  hgs := R.hgs
/-- a hidden object is changed -/
theorem REnv.poke {c : Ac} {Hf H : Hp} {σ : L2.St} {l : LSt} (R : REnv c Hf σ H l) {a : Addr} {o : HO} (n : Hf a = none) (n0 : c.hid a = none) (nd : ¬ isD l.g c.ad a)
    (fr : ∀ (j : Nat) (s : Slot), l.sl[j]? = some s → isOwn s = true → σ[j]? ≠ some (some (.ref a))) : REnv c Hf σ (upd H a o) l where
  len := R.len
  slot := fun j s hj => by
    obtain ⟨x, e, q⟩ := R.slot j s hj
    refine ⟨x, e, ?_⟩
    cases s with
    | un => exact True.intro
    | slf => exact q
    | v d => exact q
    | own co' =>
      obtain ⟨a', o', qa, ha', r', n', n0', nd'⟩ := q
      have ne : a' ≠ a := fun z => fr j _ hj rfl (by rw [e, qa, z])
      exact ⟨a', o', qa, by rw [upd_ne ne]; exact ha', r', n', n0', nd'⟩
  dis := R.dis
  sub := fun b u hb => by
    rw [upd_ne (fun z => by rw [z, n] at hb; cases hb)]
    exact R.sub b u hb
  base := R.base
  frame := fun b u h1 => by
    obtain ⟨e1, e2, e3⟩ := R.frame b u h1
    exact ⟨by rw [upd_ne (fun z => by rw [z, n0] at h1; cases h1)]; exact e1, e2, e3⟩
  dice := R.dice.poke nd
  hgs := R.hgs
/-- a hidden object more is kept in mind -/
def Ac.more (c : Ac) (a : Addr) (o : HO) : Ac := { c with hid := upd c.hid a o }
theorem REnv.mind {c : Ac} {Hf H : Hp} {σ : L2.St} {l : LSt} (R : REnv c Hf σ H l) {a : Addr} {o : HO} (h : H a = some o) (n : Hf a = none) (nd : ¬ isD l.g c.ad a)
    (fr : ∀ (j : Nat) (s : Slot), l.sl[j]? = some s → isOwn s = true → σ[j]? ≠ some (some (.ref a))) : REnv (c.more a o) Hf σ H l where
  len := R.len
  slot := fun j s hj => by
    obtain ⟨x, e, q⟩ := R.slot j s hj
    refine ⟨x, e, ?_⟩
    cases s with
    | un => exact True.intro
    | slf => exact q
    | v d => exact q
    | own co' =>
      obtain ⟨a', o', qa, ha', r', n', n0', nd'⟩ := q
      have ne : a' ≠ a := fun z => fr j _ hj rfl (by rw [e, qa, z])
      exact ⟨a', o', qa, ha', r', n', by show upd c.hid a o a' = none; rw [upd_ne ne]; exact n0', nd'⟩
  dis := R.dis
  sub := R.sub
  base := R.base
  frame := fun b u h1 => by
    have h1' : upd c.hid a o b = some u := h1
    by_cases e : b = a
    · subst e
      rw [upd_same] at h1'
      cases h1'
      exact ⟨h, n, nd⟩
    · rw [upd_ne e] at h1'
      exact R.frame b u h1'
  dice := R.dice
  hgs := R.hgs
theorem REnv.unmind {c : Ac} {Hf H : Hp} {σ : L2.St} {l : LSt} {a : Addr} {o : HO} (n0 : c.hid a = none) (R : REnv (c.more a o) Hf σ H l) : REnv c Hf σ H l ∧ H a = some o ∧ Hf a = none ∧ ¬ isD l.g c.ad a ∧ ∀ (j : Nat) (s : Slot), l.sl[j]? = some s → isOwn s = true → σ[j]? ≠ some (some (.ref a)) := by
  obtain ⟨h1, h2, h3⟩ := R.frame a o (show upd c.hid a o a = some o from upd_same)
  refine ⟨⟨R.len, fun j s hj => ?_, R.dis, R.sub, R.base, fun b u hb => ?_, R.dice, R.hgs⟩, h1, h2, h3, fun j s hj os e => ?_⟩
  · obtain ⟨x, e, q⟩ := R.slot j s hj
    refine ⟨x, e, ?_⟩
    cases s with
    | un => exact True.intro
    | slf => exact q
    | v d => exact q
    | own co' =>
      obtain ⟨a', o', qa, ha', r', n', n0', nd'⟩ := q
      refine ⟨a', o', qa, ha', r', n', ?_, nd'⟩
      have z : upd c.hid a o a' = none := n0'
      by_cases e2 : a' = a
      · rw [e2, upd_same] at z
        cases z
      · rw [upd_ne e2] at z
        exact z
  · refine R.frame b u ?_
    show upd c.hid a o b = some u
    rw [upd_ne (fun z => by rw [z, n0] at hb; cases hb)]
    exact hb
  · cases s with
    | own co' =>
      obtain ⟨a', o', e1, ha', r', n', n0', nd'⟩ := R.own hj
      rw [e1] at e
      cases e
      have z : upd c.hid a o a = none := n0'
      rw [upd_same] at z
      cases z
    | _ => cases os

/-! ### the comprehension -/
abbrev W0 : WX := fun _ _ _ _ => False
def compLoop (t : Tgt) (tt : LSt → Res Bool) (fe : LSt → Res D) (vs : List Nat) : List D → List D → LSt → Res CO
  | [], acc, l => .ok (.lst acc) l
  | d :: ds, acc, l => match t d l with
    | none => .bad
    | some l => match tt l with
      | .ok true l => (match fe l with
        | .ok y l => if acc.length < szL then compLoop t tt fe vs ds (acc ++ [y]) (l.wipeL vs) else .bad
        | _ => .bad)
      | .ok false l => compLoop t tt fe vs ds acc (l.wipeL vs)
      | _ => .bad
def sComp (f : LSt → Res (List D)) (t : Tgt) (tt : LSt → Res Bool) (fe : LSt → Res D) (vs : List Nat) : LSt → Res CO := fun l => (f l).bind fun ds l => compLoop t tt fe vs ds [] (l.wipeL vs)
def sYes : LSt → Res Bool := fun l => .ok true l
structure DTs (X : Cx) (c : Ac) (W : WX) (es : List Expr) (f : LSt → Res Bool) : Prop where pts : PTs X es (tB c W f)
section
variable {X : Cx} {c : Ac} {W : WX} {elt tg iter : Expr} {ifs : List Expr} {scope : Scope} {own : List (Str × Nat)} {pos : Pos} {f : LSt → Res (List D)} {t : Tgt} {tt : LSt → Res Bool} {fe : LSt → Res D} {ws : List Nat}
theorem dts_nil : DTs X c W [] sYes := ⟨⟨fun pins s σ H Q I ⟨Hf, l, R, h⟩ => pts_nil.run pins s σ H Q I (h H Hf R (Same.refl _))⟩⟩
theorem dts_one {e : Expr} (h : DT X c W e tt) : DTs X c W [e] tt := ⟨pts_one h.pt⟩
theorem lc_run {g : TG} {TT' : TT} {TE' : TE} (hws : ∀ j ∈ ws, j ∈ own.map (·.2))
    (hg : ∀ (v : V) (σ : L2.St) (H : Hp) (Q : L2.St → Hp → Prop) (c' : Ac) (Hf : Hp) (l l' : LSt) (d : D), c'.toCn = c.toCn → REnv c' Hf σ H l → RVal c'.toCn c'.ad Hf d v → t d l = some l' → (∀ σ', REnv c' Hf σ' H l' → Off ws σ σ' → Q σ' H) → g v σ H Q)
    (ht : ∀ (c' : Ac) σ H Q, c'.toCn = c.toCn → tB c' W0 tt σ H Q → TT' σ H Q) (he : ∀ (c' : Ac) σ H Q, c'.toCn = c.toCn → tD c' W0 fe σ H Q → TE' σ H Q)
    {σ : L2.St} {H : Hp} {Q : VK} (h : tO c W (sComp f t tt fe (own.map (·.2))) σ H Q) : tLc (tI c W f) g TT' TE' (own.map (·.2)) σ H Q := by
  obtain ⟨Hf, l, R, h⟩ := h
  refine ⟨Hf, l, R, ?_⟩
  unfold sComp at h
  cases e : f l with
  | bad =>
    rw [e] at h
    exact h
  | ex x l1 =>
    rw [e] at h
    exact h
  | ok ds l1 =>
    rw [e] at h
    intro J H1 Hf1 R1 s1 good D hD
    let vs := own.map (·.2)
    have h1 : wpR (compLoop t tt fe vs ds [] (l1.wipeL vs)) (PO' c σ Q Hf1) (PX c W σ Hf1) := wpR.mono PO'.mo s1 h
    have c0 : c.hid D = none := by
      cases e0 : c.hid D with
      | none => rfl
      | some u =>
        have := (R1.frame D u e0).1
        rw [hD] at this
        cases this
    have dn : ∀ {σ : L2.St} {l : LSt}, REnv c Hf1 σ H1 l → ¬ isD l.g c.ad D := fun {σ l} R => R.dice.new hD
    have fr0 : ∀ (j : Nat) (s : Slot), (l1.wipeL vs).sl[j]? = some s → isOwn s = true → (L2.wipe σ vs)[j]? ≠ some (some (.ref D)) := fun j s hj ho e => by
      cases s with
      | own co' =>
        obtain ⟨a', o', e', ha', _⟩ := (R1.wipe vs).own hj
        rw [e'] at e
        cases e
        rw [hD] at ha'
        cases ha'
      | _ => cases ho
    -- the word: behind i items the new list holds us, data acc
    refine ⟨fun i m H' => m = ds.length - i ∧ i ≤ ds.length ∧ ∃ (Hf : Hp) (l : LSt) (acc : List Dx.D) (us : List V), REnv (c.more D (.lst us)) Hf (L2.wipe σ vs) H' l ∧ Same Hf1 Hf ∧ RVals c.toCn c.ad Hf acc us ∧
      (∀ (j : Nat) (s : Slot), j ∈ vs → l.sl[j]? = some s → s = .un) ∧ wpR (compLoop t tt fe vs (ds.drop i) acc l) (PO' c σ Q Hf) (PX c W σ Hf),
      ⟨ds.length, rfl, Nat.zero_le _, Hf1, l1.wipeL vs, [], [], ?_, Same.refl _, rfl, wipeL_at l1 vs, h1⟩, fun i m H' ⟨em, hle, Hf, l, acc, us, R, s, ra, un, h⟩ => ?_⟩
    · have R2 := (R1.wipe vs).hid (o := .lst []) hD
      exact R2.mind upd_same (R1.free hD) (fun z => dn (R1.wipe vs) z) fr0
    · obtain ⟨R0, hDD, nf, nd, fr⟩ := R.unmind c0
      obtain ⟨ggo, gst⟩ := good Hf _ H' l R0 s
      by_cases hlt : i < ds.length
      · obtain ⟨go, yl⟩ := ggo i ds[i] (List.getElem?_eq_getElem hlt)
        refine .inr ⟨go, fun H' => ∃ (Hf : Hp) (l : LSt) (acc : List Dx.D) (us : List V), REnv (c.more D (.lst us)) Hf (L2.wipe σ vs) H' l ∧ Same Hf1 Hf ∧ RVals c.toCn c.ad Hf acc us ∧
          (∀ (j : Nat) (s : Slot), j ∈ vs → l.sl[j]? = some s → s = .un) ∧ wpR (compLoop t tt fe vs (ds.drop (i + 1)) acc l) (PO' c σ Q Hf) (PX c W σ Hf), fun H' q => ⟨ds.length - (i + 1), by omega, rfl, hlt, q⟩, fun x H2 hy => ?_⟩
        obtain ⟨Hf2, sf, rv, hyl⟩ := yl x H2 hy
        have R' := R.yield hyl
        rw [drop_get (List.getElem?_eq_getElem hlt)] at h
        unfold compLoop at h
        cases e2 : t ds[i] l with
        | none =>
          rw [e2] at h
          exact h.elim
        | some l2 =>
          rw [e2] at h
          refine hg x _ H2 _ (c.more D (.lst us)) Hf2 l l2 ds[i] rfl R' rv e2 fun σ2 R2 off => ⟨wipe_off off hws |>.trans ?_, ?_⟩
          · apply List.ext_getElem?
            intro j
            by_cases hj : j ∈ vs
            · by_cases hl : j < σ.length
              · rw [wipe_at _ vs j hj (by rw [L2.wipe_length]; exact hl), wipe_at σ vs j hj hl]
              · rw [List.getElem?_eq_none (by rw [L2.wipe_length, L2.wipe_length]; omega), List.getElem?_eq_none (by rw [L2.wipe_length]; omega)]
            · rw [wipe_get _ vs j hj]
          · have wσ : L2.wipe σ2 vs = L2.wipe σ vs := (wipe_off off hws).trans (by
              apply List.ext_getElem?
              intro j
              by_cases hj : j ∈ vs
              · by_cases hl : j < σ.length
                · rw [wipe_at _ vs j hj (by rw [L2.wipe_length]; exact hl), wipe_at σ vs j hj hl]
                · rw [List.getElem?_eq_none (by rw [L2.wipe_length, L2.wipe_length]; omega), List.getElem?_eq_none (by rw [L2.wipe_length]; omega)]
              · rw [wipe_get _ vs j hj])
            refine ht (c.more D (.lst us)) σ2 H2 _ rfl ⟨Hf2, l2, R2, ?_⟩
            have h2 : wpR (match tt l2 with
              | .ok true l => (match fe l with
                | .ok y l => if acc.length < szL then compLoop t tt fe vs (ds.drop (i + 1)) (acc ++ [y]) (l.wipeL vs) else .bad
                | _ => .bad)
              | .ok false l => compLoop t tt fe vs (ds.drop (i + 1)) acc (l.wipeL vs)
              | _ => .bad) (PO' c σ Q Hf) (PX c W σ Hf) := h
            cases e3 : tt l2 with
            | bad =>
              rw [e3] at h2
              exact h2.elim
            | ex x l3 =>
              rw [e3] at h2
              exact h2.elim
            | ok b l3 =>
              rw [e3] at h2
              intro H3 Hf3 R3 s3
              cases b with
              | false =>
                refine ⟨Hf3, l3.wipeL vs, acc, us, ?_, s.trans (sf.trans s3), ra.mono (sf.trans s3), wipeL_at l3 vs, wpR.mono PO'.mo (sf.trans s3) h2⟩
                rw [← wσ]
                exact R3.wipe vs
              | true =>
                refine he (c.more D (.lst us)) σ2 H3 _ rfl ⟨Hf3, l3, R3, ?_⟩
                have h2 : wpR (match fe l3 with
                  | .ok y l => if acc.length < szL then compLoop t tt fe vs (ds.drop (i + 1)) (acc ++ [y]) (l.wipeL vs) else .bad
                  | _ => .bad) (PO' c σ Q Hf) (PX c W σ Hf) := h2
                cases e4 : fe l3 with
                | bad =>
                  rw [e4] at h2
                  exact h2.elim
                | ex x l4 =>
                  rw [e4] at h2
                  exact h2.elim
                | ok y l4 =>
                  rw [e4] at h2
                  intro v H4 Hf4 R4 s4 rv4
                  have h5 : wpR (if acc.length < szL then compLoop t tt fe vs (ds.drop (i + 1)) (acc ++ [y]) (l4.wipeL vs) else .bad) (PO' c σ Q Hf) (PX c W σ Hf) := h2
                  split at h5
                  · rename_i hz
                    have sall := sf.trans (s3.trans s4)
                    have ra4 := ra.mono sall
                    have R5 := R4.wipe vs
                    rw [wσ] at R5
                    obtain ⟨R6, hD6, nf6, nd6, fr6⟩ := R5.unmind c0
                    refine ⟨us, hD6, by rw [← szL_eq, ← ra4.length]; exact hz, Hf4, l4.wipeL vs, acc ++ [y], us ++ [v], ?_, s.trans sall, ra4.append (.cons rv4 .nil), wipeL_at l4 vs, wpR.mono PO'.mo sall h5⟩
                    exact (R6.poke nf6 c0 nd6 fr6).mind upd_same nf6 nd6 fr6
                  · exact h5.elim
      · have ei : i = ds.length := by omega
        subst ei
        rw [List.drop_length] at h
        have Rσ : REnv c Hf σ H' l := R0.unwipe un
        refine .inl ⟨gst, h D (.lst us) H' Hf Rσ (Same.refl _) hDD ⟨us, rfl, ra⟩ nf c0 nd fun j s hj os e => ?_⟩
        have hv : j ∉ vs := fun z => by
          have := un j s z hj
          subst this
          cases os
        exact fr j s hj os (by rw [wipe_get σ vs j hv]; exact e)
/-- a target's own word -/
def gD (c : Ac) (t : Tgt) (ws : List Nat) : TG := fun v σ H Q => ∃ (c' : Ac) (Hf : Hp) (l l' : LSt) (d : D), c'.toCn = c.toCn ∧ REnv c' Hf σ H l ∧ RVal c'.toCn c'.ad Hf d v ∧ t d l = some l' ∧ ∀ σ', REnv c' Hf σ' H l' → Off ws σ σ' → Q σ' H
theorem DG.can (h : DG X c tg t ws) : PG X tg (gD c t ws) := by
  obtain ⟨g, p, hg⟩ := h.ex
  exact ⟨fun pins s σ H v u Q I r ⟨c', Hf, l, l', d, h1, h2, h3, h4, h5⟩ => p.run pins s σ H v u Q I r (hg v σ H Q c' Hf l l' d h1 h2 h3 h4 h5)⟩
theorem do_lc (hc : X.calm = true) (hN : X.N.Nodup) (hi : DI X c W tg iter f) (ok : BlkOk X.N X.env.scope scope own) (hws : ∀ j ∈ ws, j ∈ own.map (·.2))
    (hg : ∀ (s : Shared) (H : Hp) (C : Addr) (cl : List (Str × Addr)) (fp : List Addr), DG (X.blk s H scope (compEnvC scope cl C X.env) fp) c tg t ws)
    (ht : ∀ (s : Shared) (H : Hp) (C : Addr) (cl : List (Str × Addr)) (fp : List Addr) (c' : Ac), c'.toCn = c.toCn → DTs (X.blk s H scope (compEnvC scope cl C X.env) fp) c' W0 ifs tt)
    (he : ∀ (s : Shared) (H : Hp) (C : Addr) (cl : List (Str × Addr)) (fp : List Addr) (c' : Ac), c'.toCn = c.toCn → DE (X.blk s H scope (compEnvC scope cl C X.env) fp) c' W0 elt fe) (hs : ∀ x, foldedSetIterable iter X.env x = pure x := by intro _; rfl) :
    DO X c W (.ListComp elt [⟨tg, iter, ifs, 0⟩] scope pos) (sComp f t tt fe (own.map (·.2))) := by
  exact ⟨(pe_lc (g := gD c t ws) (tt := fun σ H Q => ∃ c' : Ac, c'.toCn = c.toCn ∧ tB c' W0 tt σ H Q) (te := fun σ H Q => ∃ c' : Ac, c'.toCn = c.toCn ∧ tD c' W0 fe σ H Q) hc hN hi.pi ok (fun s H C cl fp => (hg s H C cl fp).can)
    (fun s H C cl fp => ⟨fun pins s1 σ H1 Q I ⟨c', h1, h2⟩ => (ht s H C cl fp c' h1).pts.run pins s1 σ H1 Q I h2⟩)
    (fun s H C cl fp => ⟨fun pins s1 σ H1 Q I ⟨c', h1, h2⟩ => (he s H C cl fp c' h1).pe.run pins s1 σ H1 Q I h2⟩) hs).imp' fun σ H Q h =>
      lc_run hws (fun v σ H Q c' Hf l l' d h1 h2 h3 h4 h5 => ⟨c', Hf, l, l', d, h1, h2, h3, h4, h5⟩) (fun c' σ H Q e h => ⟨c', e, h⟩) (fun c' σ H Q e h => ⟨c', e, h⟩) h⟩
end
end Dx

/-! Dx.Obj: instances with slots: read, made, their methods. -/
namespace Dx
open PySem PySem.Spec PyProof.Rows L2

/-! ### attributes -/
/-- where the classes keep an attribute -/
def AttrOk (cn : Cn) (f : Str) (tb : Nat → Option Nat) : Prop := ∀ n i, tb n = some i → SlX.SCls cn.K (cn.cA n) ∧ ∃ p, SlX.Slot1 cn.K (cn.cA n) f p i
def fldD (tb : Nat → Option Nat) : D → Option D
  | .ins n fs => (tb n).bind fun i => fs[i]?
  | _ => none
def sAttr (tb : Nat → Option Nat) (a : LSt → Res D) : LSt → Res D := fun l => (a l).bind fun d l => opt (fldD tb d) l
section
variable {X : Cx} {c : Ac} {W : WX} {e : Expr} {pos : Pos} {fe : LSt → Res D} {f : Str} {tb : Nat → Option Nat}
theorem de_attr (hK : X.K = c.K) (ok : AttrOk c.toCn f tb) (he : DE X c W e fe) (hb : attributeBase e f X.env (eval e X.env) = eval e X.env := by rfl) : DE X c W (.Attribute e f pos) (sAttr tb fe) :=
  ⟨(SlX.pe_sl he.pe hb).imp' fun σ H Q ⟨Hf, l, R, h⟩ => run_bind PD.mo R h fun d l1 v H1 Hf1 R1 s1 r1 h1 => by
    cases d with
    | ins n fs =>
      have h1 : wpR (opt ((tb n).bind fun i => fs[i]?) l1) (PD c σ Q Hf1) (PX c W σ Hf1) := h1
      cases e1 : tb n with
      | none =>
        rw [e1] at h1
        exact h1.elim
      | some i =>
        rw [e1] at h1
        have h1 : wpR (opt (fs[i]?) l1) (PD c σ Q Hf1) (PX c W σ Hf1) := h1
        cases e2 : fs[i]? with
        | none =>
          rw [e2] at h1
          exact h1.elim
        | some d2 =>
          rw [e2] at h1
          obtain ⟨a, dx, vs, rfl, ha, hd, rv⟩ := r1
          obtain ⟨u, eu, ru⟩ := rv.get e2
          obtain ⟨sc, p, sl⟩ := ok n i e1
          refine ⟨a, c.cA n, dx, p, vs.map some, i, u, rfl, .inr ⟨R1.sub _ _ ha, R1.sub _ _ hd⟩, ?_, ?_, ?_, PD.flat R1 h1 ru⟩
          · rw [hK]
            exact sc
          · rw [hK]
            exact sl
          · rw [List.getElem?_map, eu]
            rfl
    | _ => exact h1.elim⟩
end

/-! ### an instance is made -/
/-- the body of an __init__ begins: self at slot 0 -/
def spI (cn : Cn) (n : Nat) (m : Fm) : Sp := fun vs H Q E => ∃ (Hf : Hp) (ad : Ad) (ds : List D) (g : G) (vs' : List V), vs = .ref ad.oa :: vs' ∧ g.ob = some (n, []) ∧ Same Hf H ∧ DiceOk cn Hf H ad g ∧ RVals cn ad Hf ds vs' ∧
  match m ds g with
  | .ok e g' => ∀ v H' Hf', Aft cn ad g g' H Hf H' Hf' → REV cn ad H Hf' H' g' e v → Q v H'
  | .ex x g' => ∀ cls dd H' Hf', Aft cn ad g g' H Hf H' Hf' → RX cn ad Hf' x cls dd → E cls dd H'
  | .bad => False
def allS : List (Option D) → Option (List D)
  | [] => some []
  | some d :: r => (allS r).map (d :: ·)
  | none :: _ => none
def mkC (n : Nat) (mi : Fm) : Fm := fun ds g => match mi ds { g with ob := some (n, []) } with
  | .ok (.v .non) g' => (match g'.ob with
    | some (n', f :: fs) => if n' = n then (match allS (f :: fs) with
      | some fs' => .ok (.v (.ins n fs')) { g' with ob := g.ob }
      | none => .bad) else .bad
    | _ => .bad)
  | .ok _ _ => .bad
  | .ex x g' => .ex x { g' with ob := g.ob }
  | .bad => .bad
mutual
theorem RVal.re {cn : Cn} {ad ad' : Ad} (h : ad'.d = ad.d) {H : Hp} : ∀ (d : D) (v : V), RVal cn ad H d v → RVal cn ad' H d v
  | .non, _, q => q
  | .bl _, _, q => q
  | .int _, _, q => q
  | .str _, _, q => q
  | .tup ds, _, ⟨a, vs, q, h1, r⟩ => ⟨a, vs, q, h1, RVals.re h ds vs r⟩
  | .lst ds, _, ⟨a, vs, q, h1, r⟩ => ⟨a, vs, q, h1, RVals.re h ds vs r⟩
  | .scr _, _, q => q
  | .dK ks ds, _, ⟨a, vs, q, h1, l, r⟩ => ⟨a, vs, q, h1, l, RVals.re h ds vs r⟩
  | .dT ks ds, _, ⟨a, vs, q, h1, l, r⟩ => ⟨a, vs, q, h1, l, RVals.re h ds vs r⟩
  | .ins n fs, _, ⟨a, dx, vs, q, h1, h2, r⟩ => ⟨a, dx, vs, q, h1, h2, RVals.re h fs vs r⟩
  | .ty _, _, q => q
  | .glo _, _, q => q
  | .dice, _, q => by
    show _ = V.ref ad'.d
    rw [h]
    exact q
theorem RVals.re {cn : Cn} {ad ad' : Ad} (h : ad'.d = ad.d) {H : Hp} : ∀ (ds : List D) (vs : List V), RVals cn ad H ds vs → RVals cn ad' H ds vs
  | [], _, q => q
  | d :: ds, _, ⟨v, r, q, h1, t⟩ => ⟨v, r, q, RVal.re h d v h1, RVals.re h ds r t⟩
end
theorem allS_get : ∀ {fs : List (Option D)} {gs : List D}, allS fs = some gs → fs = gs.map some
  | [], gs, h => by
    cases h
    rfl
  | some d :: r, gs, h => by
    have h' : (allS r).map (d :: ·) = some gs := h
    rw [Option.map_eq_some_iff] at h'
    obtain ⟨g, e1, e2⟩ := h'
    subst e2
    rw [allS_get e1]
    rfl
  | none :: _, _, h => by cases h
end Dx

/-! Dx.Obj2: C(..), self within __init__, methods, properties. -/
namespace Dx
open PySem PySem.Spec PyProof.Rows L2

section
variable {cn : Cn} {ad : Ad}
theorem upd2_some {H : Hp} {x dx a : Addr} {o u w : HO} (h : H a = some o) (n1 : H x = none) (n2 : H dx = none) : upd (upd H dx u) x w a = some o := by
  rw [upd_ne (ne_of_none h n1), upd_ne (ne_of_none h n2)]
  exact h
/-- from the promise of __init__ to that of C(..) -/
theorem make_run {n : Nat} {mi : Fm} {Hf H : Hp} {g : G} {ds : List D} {vs : List V} {Q : VK} {E : XK} {x dx : Addr} (sm : Same Hf H) (dc : DiceOk cn Hf H ad g) (r : RVals cn ad Hf ds vs) (nx : H x = none) (ndx : H dx = none) (ne : dx ≠ x)
    (h : match mkC n mi ds g with
      | .ok e g' => ∀ v H' Hf', Aft cn ad g g' H Hf H' Hf' → RVal cn ad Hf' e.d v → Q v H'
      | .ex y g' => ∀ cls dd H' Hf', Aft cn ad g g' H Hf H' Hf' → RX cn ad Hf' y cls dd → E cls dd H'
      | .bad => False) :
    spI cn n mi (.ref x :: vs) (upd (upd H dx (.own x)) x (.ins (cn.cA n) dx [])) (fun v H2 => v = .non ∧ Q (.ref x) H2) E := by
  have nfx : Hf x = none := sm.free nx
  have nfd : Hf dx = none := sm.free ndx
  have up : ∀ a o, H a = some o → upd (upd H dx (.own x)) x (.ins (cn.cA n) dx []) a = some o := fun a o e => upd2_some e nx ndx
  have dc0 : DiceOk cn Hf (upd (upd H dx (.own x)) x (.ins (cn.cA n) dx [])) ⟨ad.d, x, dx⟩ { g with ob := some (n, []) } := by
    refine ⟨fun a b c q => ?_, fun k fs q => ?_⟩
    · obtain ⟨h1, h2⟩ := dc.dc a b c q
      exact ⟨h1, up _ _ h2⟩
    · cases q
      refine ⟨nfx, nfd, ne, .inl (by show upd (upd H dx _) x _ dx = _; rw [upd_ne ne, upd_same]), [], .inl ⟨upd_same, rfl⟩, rfl, fun i d e => by simp at e⟩
  refine ⟨Hf, ⟨ad.d, x, dx⟩, ds, { g with ob := some (n, []) }, vs, rfl, rfl, fun a o e => up a o (sm a o e), dc0, RVals.re (ad := ad) (ad' := ⟨ad.d, x, dx⟩) rfl _ _ r, ?_⟩
  -- what lies apart stays
  have fra : ∀ {g2 : G} {H' Hf' : Hp}, Aft cn ⟨ad.d, x, dx⟩ { g with ob := some (n, []) } g2 (upd (upd H dx (.own x)) x (.ins (cn.cA n) dx [])) Hf H' Hf' →
      ∀ a o, H a = some o → Hf a = none → ¬ (g.sh.1 = true ∧ a = ad.d) → H' a = some o ∧ Hf' a = none ∧ a ≠ x ∧ a ≠ dx := fun {g2 H' Hf'} A a o h1 h2 h3 => by
    have n1 : a ≠ x := ne_of_none h1 nx
    have n2 : a ≠ dx := ne_of_none h1 ndx
    obtain ⟨e1, e2⟩ := A.frame a o (up a o h1) h2 (by
      rintro (z | ⟨_, z⟩)
      · exact h3 z
      · rcases z with z | z
        · exact n1 z
        · exact n2 z)
    exact ⟨e1, e2, n1, n2⟩
  -- the outer object, if there is one
  have obj : ∀ {g2 : G} {H' Hf' Hf2 : Hp}, Aft cn ⟨ad.d, x, dx⟩ { g with ob := some (n, []) } g2 (upd (upd H dx (.own x)) x (.ins (cn.cA n) dx [])) Hf H' Hf' → Same Hf' Hf2 → (∀ b, b ≠ x → b ≠ dx → Hf2 b = Hf' b) →
      ObOk cn Hf2 H' ad g := fun {g2 H' Hf' Hf2} A s2 h2 k fs q => by
    obtain ⟨q1, q2, q3, q4, us, q5, q6⟩ := dc.obj k fs q
    have hd : g.d.isSome = true → ad.oa ≠ ad.d ∧ ad.od ≠ ad.d := fun hs => by
      cases e : g.d with
      | none =>
        rw [e] at hs
        cases hs
      | some t =>
        obtain ⟨a, b, c⟩ := t
        have hl := (dc.dc a b c e).2
        constructor
        · intro z
          rcases q5 with ⟨w, _⟩ | ⟨w, _⟩
          · rw [z, hl] at w
            cases w
          · rw [z, hl] at w
            unfold SlX.SlO at w
            cases w
        · intro z
          rcases q4 with w | w
          · rw [z, hl] at w
            cases w
          · rw [z, hl] at w
            cases w
    obtain ⟨u, hu⟩ := slt_there q5
    obtain ⟨e1, e2, e3, e4⟩ := fra A ad.oa u hu q1 fun z => (hd z.1).1 z.2
    have hod : ∃ w, H ad.od = some w := q4.elim (fun w => ⟨_, w⟩) fun w => ⟨_, w⟩
    obtain ⟨w, hw⟩ := hod
    obtain ⟨f1, f2, f3, f4⟩ := fra A ad.od w hw q2 fun z => (hd z.1).2 z.2
    refine ⟨by rw [h2 _ e3 e4]; exact e2, by rw [h2 _ f3 f4]; exact f2, q3, ?_, us, ?_, q6.mono (A.grow.trans s2)⟩
    · rw [f1, ← hw]
      exact q4
    · rcases q5 with ⟨z, e⟩ | ⟨z, e⟩
      · refine .inl ⟨?_, e⟩
        rw [e1, ← hu]
        exact z
      · refine .inr ⟨?_, ?_⟩
        · rw [e1, ← hu]
          exact z
        · rw [f1, ← hw]
          exact e
  have aft : ∀ {g2 : G} {H' Hf' Hf2 : Hp}, Aft cn ⟨ad.d, x, dx⟩ { g with ob := some (n, []) } g2 (upd (upd H dx (.own x)) x (.ins (cn.cA n) dx [])) Hf H' Hf' → Same Hf' Hf2 → Same Hf2 H' → (∀ b, b ≠ x → b ≠ dx → Hf2 b = Hf' b) →
      Aft cn ad g { g2 with ob := g.ob } H Hf H' Hf2 := fun {g2 H' Hf' Hf2} A s2 s3 h2 => by
    refine ⟨A.grow.trans s2, s3, fun a o h1 h3 h4 => ?_, ⟨fun a b c q => ?_, obj A s2 h2⟩, ?_⟩
    · obtain ⟨e1, e2, e3, e4⟩ := fra A a o h1 h3 fun z => h4 (.inl z)
      exact ⟨e1, by rw [h2 _ e3 e4]; exact e2⟩
    · obtain ⟨h3, h4⟩ := A.dice.dc a b c q
      have e1 : ad.d ≠ x ∧ ad.d ≠ dx := by
        have hs : g.d.isSome = true := by
          have := congrArg Prod.fst A.hgs
          have q' : g2.d = some (a, b, c) := q
          have t1 : g2.d.isSome = g.d.isSome := this
          rw [← t1, q']
          rfl
        cases e : g.d with
        | none =>
          rw [e] at hs
          cases hs
        | some t =>
          obtain ⟨a', b', c'⟩ := t
          have hl := (dc.dc a' b' c' e).2
          exact ⟨ne_of_none hl nx, ne_of_none hl ndx⟩
      exact ⟨by rw [h2 _ e1.1 e1.2]; exact h3, h4⟩
    · have t1 : g2.d.isSome = g.d.isSome := congrArg Prod.fst A.hgs
      show (g2.d.isSome, g.ob.isSome) = (g.d.isSome, g.ob.isSome)
      rw [t1]
  unfold mkC at h
  cases e : mi ds { g with ob := some (n, []) } with
  | bad =>
    rw [e] at h
    exact h
  | ex y g2 =>
    rw [e] at h
    intro cls dd H' Hf' A rx
    refine h cls dd H' Hf' (aft A (Same.refl _) A.sub fun _ _ _ => rfl) ?_
    obtain ⟨r1, r2⟩ := rx
    refine ⟨r1, ?_⟩
    rcases r2 with r2 | ⟨d, a, v, h1, h2, h3, h4⟩
    · exact .inl r2
    · exact .inr ⟨d, a, v, h1, h2, h3, RVal.re (ad := ⟨ad.d, x, dx⟩) (ad' := ad) rfl _ _ h4⟩
  | ok ev g2 =>
    rw [e] at h
    cases ev with
    | o co => exact h.elim
    | v d =>
      cases d with
      | non =>
        intro v H' Hf' A rv
        refine ⟨rv, ?_⟩
        have h : match (match g2.ob with
          | some (n', f :: fs) => if n' = n then (match allS (f :: fs) with
            | some fs' => FR.ok (.v (.ins n fs')) { g2 with ob := g.ob }
            | none => .bad) else .bad
          | _ => .bad) with
          | .ok e g' => ∀ v H' Hf', Aft cn ad g g' H Hf H' Hf' → RVal cn ad Hf' e.d v → Q v H'
          | .ex y g' => ∀ cls dd H' Hf', Aft cn ad g g' H Hf H' Hf' → RX cn ad Hf' y cls dd → E cls dd H'
          | .bad => False := h
        cases e2 : g2.ob with
        | none =>
          rw [e2] at h
          exact h.elim
        | some t =>
          obtain ⟨n', fs0⟩ := t
          rw [e2] at h
          cases fs0 with
          | nil => exact h.elim
          | cons f fs =>
            have h : match (if n' = n then (match allS (f :: fs) with
              | some fs' => FR.ok (.v (.ins n fs')) { g2 with ob := g.ob }
              | none => .bad) else .bad) with
              | .ok e g' => ∀ v H' Hf', Aft cn ad g g' H Hf H' Hf' → RVal cn ad Hf' e.d v → Q v H'
              | .ex y g' => ∀ cls dd H' Hf', Aft cn ad g g' H Hf H' Hf' → RX cn ad Hf' y cls dd → E cls dd H'
              | .bad => False := h
            by_cases hn : n' = n
            · rw [if_pos hn] at h
              subst hn
              have h : match (match allS (f :: fs) with
                | some fs' => FR.ok (.v (.ins n' fs')) { g2 with ob := g.ob }
                | none => .bad) with
                | .ok e g' => ∀ v H' Hf', Aft cn ad g g' H Hf H' Hf' → RVal cn ad Hf' e.d v → Q v H'
                | .ex y g' => ∀ cls dd H' Hf', Aft cn ad g g' H Hf H' Hf' → RX cn ad Hf' y cls dd → E cls dd H'
                | .bad => False := h
              cases e3 : allS (f :: fs) with
              | none =>
                rw [e3] at h
                exact h.elim
              | some gs =>
                rw [e3] at h
                obtain ⟨z1, z2, z3, z4, us, z5, z6⟩ := A.dice.obj n' (f :: fs) e2
                have eg := allS_get e3
                have lus : us.length = gs.length := by
                  rw [← z6.1, eg, List.length_map]
                -- the object is whole
                have whole : ∃ ws : List V, us = ws.map some ∧ RVals cn ad Hf' gs ws := by
                  have all : ∀ (gs : List D) (us : List (Option V)), us.length = gs.length → (∀ (i : Nat) (d : D), gs[i]? = some d → ∃ v, us[i]? = some (some v) ∧ RVal cn ad Hf' d v) → ∃ ws : List V, us = ws.map some ∧ RVals cn ad Hf' gs ws := by
                    intro gs
                    induction gs with
                    | nil =>
                      intro us hl _
                      have : us = [] := List.length_eq_zero_iff.mp hl
                      subst this
                      exact ⟨[], rfl, rfl⟩
                    | cons d gs ih =>
                      intro us hl hh
                      cases us with
                      | nil => cases hl
                      | cons u us =>
                        obtain ⟨v, q1, q2⟩ := hh 0 d rfl
                        have q1' : u = some v := by simpa using q1
                        subst q1'
                        obtain ⟨ws, q3, q4⟩ := ih us (by simpa using hl) fun i d' q => by
                          obtain ⟨v', q5, q6⟩ := hh (i + 1) d' (by simpa using q)
                          exact ⟨v', by simpa using q5, q6⟩
                        exact ⟨v :: ws, by rw [q3]; rfl, .cons q2 q4⟩
                  refine all gs us lus fun i d q => ?_
                  obtain ⟨v, q1, q2⟩ := z6.2 i d (by rw [eg, List.getElem?_map, q]; rfl)
                  exact ⟨v, q1, RVal.re (ad := ⟨ad.d, x, dx⟩) (ad' := ad) rfl _ _ q2⟩
                obtain ⟨ws, ew, rw2⟩ := whole
                have nonempty : us ≠ [] := fun z => by
                  have := z6.1
                  rw [z] at this
                  cases this
                rcases z5 with ⟨_, z⟩ | ⟨z5, z7⟩
                · exact absurd z nonempty
                · have n1 : Hf' x = none := z1
                  have n2 : Hf' dx = none := z2
                  have s2 : Same Hf' (upd (upd Hf' dx (.xd [])) x (SlX.SlO x (cn.cA n') dx us)) := fun b u q => by
                    rw [upd_ne (ne_of_none q n1), upd_ne (ne_of_none q n2)]
                    exact q
                  have s3 : Same (upd (upd Hf' dx (.xd [])) x (SlX.SlO x (cn.cA n') dx us)) H' := upd_sub (upd_sub A.sub z7) z5
                  refine h (.ref x) H' _ (aft A s2 s3 fun b h1 h2 => by rw [upd_ne h1, upd_ne h2]) ?_
                  refine ⟨x, dx, ws, rfl, ?_, ?_, rw2.mono s2⟩
                  · rw [upd_same, ew]
                  · rw [upd_ne ne, upd_same]
            · rw [if_neg hn] at h
              exact h.elim
      | _ => exact h.elim
end
end Dx

/-! Dx.Obj3: the forms of calls, by what a callee promises by data. -/
namespace Dx
open PySem PySem.Spec PyProof.Rows L2

section
variable {X : Cx} {pins : List (Addr × Obj)} {σ : L2.St} {H : Hp} {s : Shared}
/-- the callee runs, what it raises is wished for at the caller's slots -/
theorem run_RS {CX : CXT} {k : Nat} {f : Addr} {sp : Sp} {E : XK} {Q : VK} {us : List Value} {vs : List V} (F : FnR X.prog X.w X.K X.mg X.base CX k f sp) (hr : Room k X.A) (hx : PassesAt CX X σ E) (I : Inv X pins σ H s) (r : Vals vs us) (h : sp vs H Q E) :
    codeAny (model X.prog X.w) X.A (.call (.ref f) ⟨us, []⟩) (fun r s' => match r with | .ok (.ret v) => EP X pins σ Q v s' | .ok _ => False | .error e => X.xe e s') s := by
  refine codeAny_mono (F X.A X.stack s H us vs Q E hr I.env0 r h) fun r s' hq => ?_
  cases r with
  | error e => exact hx pins H s e s' I hq
  | ok fl =>
    cases fl with
    | ret u => exact I.after hq
    | next => exact False.elim hq
    | brk => exact False.elim hq
    | cont => exact False.elim hq
/-- C(..) runs -/
theorem run_makeRS {CX : CXT} {k : Nat} {C f : Addr} {sp : Sp} {E : XK} {Q : VK} {us : List Value} {vs : List V} (M : Mk X.K C f) (F : FnR X.prog X.w X.K X.mg X.base CX k f sp) (hr : Room (k + 1) X.A) (hx : PassesAt CX X σ E) (I : Inv X pins σ H s) (r : Vals vs us)
    (h : ∀ x dx, H x = none → H dx = none → dx ≠ x → sp (.ref x :: vs) (upd (upd H dx (.own x)) x (.ins C dx [])) (fun v H2 => v = .non ∧ Q (.ref x) H2) E) :
    wpAny (model X.prog X.w) X.A (call (.ref C) us) (EP X pins σ Q) X.xe s := by
  have hq := h (s.heap.objs.size + 1) s.heap.objs.size (I.hok.fresh (Nat.le_succ _)) (I.hok.fresh (Nat.le_refl _)) (Nat.ne_of_lt (Nat.lt_succ_self _))
  have I2 := Inv.made (C := C) I
  refine wpAny_call (make_map (f := f) I.kIn M.makes M.init (beq_iff_eq.mp M.fn) (codeAny_mono (F _ X.stack _ _ (Value.ref (s.heap.objs.size + 1) :: us) _ _ E (hr.make C us [])
    (I2.env0.make C us []) (Paired.cons (show RelV (V.ref (s.heap.objs.size + 1)) (Value.ref (s.heap.objs.size + 1)) from rfl) r) hq) fun r s' hq' => ?_))
  cases r with
  | error e => exact hx pins _ _ e s' I2 hq'
  | ok fl =>
    cases fl with
    | ret u =>
      obtain ⟨v, H', I3, rv, ev, q3⟩ := I2.after hq'
      subst ev
      exact ⟨rv, ⟨V.ref (s.heap.objs.size + 1), H', I3, rfl, q3⟩⟩
    | next => exact False.elim hq'
    | brk => exact False.elim hq'
    | cont => exact False.elim hq'
end

section
variable {X : Cx} {c : Ac} {W : WX} {o e : Expr} {es : List Expr} {pos p apos : Pos} {fo : LSt → Res D} {fs : LSt → Res (List D)} {m : Fm} {k : Nat} {f : Addr} {x mn : Str}
/-- f(e, ..) -/
theorem pe_callR {sp : Sp} {E : L2.St → XK} {t : TA} (F : FnR X.prog X.w X.K X.mg X.base (L2.CX X.prog X.w) k f sp) (hr : Room k X.A) (hx : ∀ σ, PassesAt (L2.CX X.prog X.w) X σ (E σ)) (hg : Gl X x) (hm : X.mg x = some (.ref f)) (hk : PySem.W.keepIn X.K (.ref f) = true)
    (ha : PA X (e :: es) t) (hdb : (x == ("__debug__" : Str)) = false := by decide) (he : starEach (e :: es) X.env = (false, eval e X.env) :: starEach es X.env := by rfl) (hpl : (backTo pos (starEach es X.env)).any (·.1) = false := by rfl) :
    PE X (.Call (.Name x p) (e :: es) [] pos) (fun σ H Q => t σ H fun vs H1 => sp vs H1 Q (E σ)) := by
  refine ⟨fun pins s σ H Q I h => ?_⟩
  refine wpAny_Call_Name_kw (ld_glob I hg hm ?_ hdb)
  refine PySem.W.callWith_K (h₀ := X.base) I.ok.mod.kin hk (thn (ha.run pos pins s σ H _ I h) fun us s1 ⟨vs, H1, I1, r, q⟩ => ⟨I1.kIn, ?_⟩) he hpl
  exact wpAny_call (run_RS F hr (hx σ) I1 r q)
theorem pe_callR0 {sp : Sp} {E : L2.St → XK} (F : FnR X.prog X.w X.K X.mg X.base (L2.CX X.prog X.w) k f sp) (hr : Room k X.A) (hx : ∀ σ, PassesAt (L2.CX X.prog X.w) X σ (E σ)) (hg : Gl X x) (hm : X.mg x = some (.ref f)) (hk : PySem.W.keepIn X.K (.ref f) = true)
    (hdb : (x == ("__debug__" : Str)) = false := by decide) : PE X (.Call (.Name x p) [] [] pos) (fun σ H Q => sp [] H Q (E σ)) := by
  refine ⟨fun pins s σ H Q I h => ?_⟩
  refine wpAny_Call_Name_kw (ld_glob I hg hm ?_ hdb)
  exact PySem.W.callWith_K0 I.kIn hk (wpAny_call (run_RS (us := []) F hr (hx σ) I .nil h))
/-- what a callee's end is, as a result -/
def frRes (l : LSt) : FR → Res D
  | .ok e g => .ok e.d (l.withG g)
  | .ex x g => .ex x (l.withG g)
  | .bad => .bad
theorem sCall_eq {m : Fm} {ds : List D} {l : LSt} : (match m ds l.g with
  | .ok e g => .ok e.d (l.withG g)
  | .ex x g => .ex x (l.withG g)
  | .bad => .bad : Res D) = frRes l (m ds l.g) := by cases m ds l.g <;> rfl
theorem spF_res {σ : L2.St} {H Hf : Hp} {l : LSt} {Q : VK} {ds : List D} {vs : List V} (R : REnv c Hf σ H l) (r : RVals c.toCn c.ad Hf ds vs) (h : wpR (frRes l (m ds l.g)) (PD c σ Q Hf) (PX c W σ Hf)) : spF c.toCn m vs H Q (WE W σ) :=
  spF_of R r (by
    cases e : m ds l.g with
    | ok ev g => rw [e] at h; exact h
    | ex x g => rw [e] at h; exact h
    | bad => rw [e] at h; exact h)
theorem de_callR (F : FnR X.prog X.w X.K X.mg X.base (L2.CX X.prog X.w) k f (spF c.toCn m)) (hr : Room k X.A) (tk : Takes X W) (hg : Gl X x) (hm : X.mg x = some (.ref f)) (hk : PySem.W.keepIn X.K (.ref f) = true)
    (ha : DA X c W (e :: es) fs) (hdb : (x == ("__debug__" : Str)) = false := by decide) (he : starEach (e :: es) X.env = (false, eval e X.env) :: starEach es X.env := by rfl) (hpl : (backTo pos (starEach es X.env)).any (·.1) = false := by rfl) :
    DE X c W (.Call (.Name x p) (e :: es) [] pos) (sCall m fs) :=
  ⟨(pe_callR F hr (fun σ => passAt tk σ) hg hm hk ha.pa hdb he hpl).imp' fun σ H Q ⟨Hf, l, R, h⟩ => run_bindA PD.mo R h fun ds l1 vs H1 Hf1 R1 s1 r1 h1 => spF_res R1 r1 (by rw [← sCall_eq]; exact h1)⟩
theorem do_callR (F : FnR X.prog X.w X.K X.mg X.base (L2.CX X.prog X.w) k f (spF c.toCn m)) (hr : Room k X.A) (tk : Takes X W) (hg : Gl X x) (hm : X.mg x = some (.ref f)) (hk : PySem.W.keepIn X.K (.ref f) = true)
    (ha : DA X c W (e :: es) fs) (hdb : (x == ("__debug__" : Str)) = false := by decide) (he : starEach (e :: es) X.env = (false, eval e X.env) :: starEach es X.env := by rfl) (hpl : (backTo pos (starEach es X.env)).any (·.1) = false := by rfl) :
    DO X c W (.Call (.Name x p) (e :: es) [] pos) (sCallO m fs) :=
  ⟨(pe_callR F hr (fun σ => passAt tk σ) hg hm hk ha.pa hdb he hpl).imp' fun σ H Q ⟨Hf, l, R, h⟩ => run_bindA PO'.mo R h fun ds l1 vs H1 Hf1 R1 s1 r1 h1 => spF_ofO R1 r1 (by
    cases e : m ds l1.g with
    | ok ev g =>
      rw [e] at h1
      cases ev with
      | v d => exact h1.elim
      | o co => exact h1
    | ex x g => rw [e] at h1; exact h1
    | bad => rw [e] at h1; exact h1)⟩
theorem de_callR0 (F : FnR X.prog X.w X.K X.mg X.base (L2.CX X.prog X.w) k f (spF c.toCn m)) (hr : Room k X.A) (tk : Takes X W) (hg : Gl X x) (hm : X.mg x = some (.ref f)) (hk : PySem.W.keepIn X.K (.ref f) = true)
    (hdb : (x == ("__debug__" : Str)) = false := by decide) : DE X c W (.Call (.Name x p) [] [] pos) (sCall m sNil) :=
  ⟨(pe_callR0 F hr (fun σ => passAt tk σ) hg hm hk hdb).imp' fun σ H Q ⟨Hf, l, R, h⟩ => spF_res R .nil (by rw [← sCall_eq]; exact h)⟩
/-- C(e, ..) -/
theorem pe_makeR {C : Addr} {sp : Sp} {E : L2.St → XK} {t : TA} (M : Mk X.K C f) (F : FnR X.prog X.w X.K X.mg X.base (L2.CX X.prog X.w) k f sp) (hr : Room (k + 1) X.A) (hx : ∀ σ, PassesAt (L2.CX X.prog X.w) X σ (E σ)) (hg : Gl X x) (hm : X.mg x = some (.ref C))
    (ha : PA X (e :: es) t) (hdb : (x == ("__debug__" : Str)) = false := by decide) (he : starEach (e :: es) X.env = (false, eval e X.env) :: starEach es X.env := by rfl) (hpl : (backTo pos (starEach es X.env)).any (·.1) = false := by rfl) :
    PE X (.Call (.Name x p) (e :: es) [] pos) (fun σ H Q => t σ H fun vs H1 => ∀ x dx, H1 x = none → H1 dx = none → dx ≠ x → sp (.ref x :: vs) (upd (upd H1 dx (.own x)) x (.ins C dx [])) (fun v H2 => v = .non ∧ Q (.ref x) H2) (E σ)) := by
  refine ⟨fun pins s σ H Q I h => ?_⟩
  refine wpAny_Call_Name_kw (ld_glob I hg hm ?_ hdb)
  refine PySem.W.callWith_K (h₀ := X.base) I.ok.mod.kin M.kp (thn (ha.run pos pins s σ H _ I h) fun us s1 ⟨vs, H1, I1, r, q⟩ => ⟨I1.kIn, ?_⟩) he hpl
  exact run_makeRS M F hr (hx σ) I1 r q
theorem make_res {n : Nat} {mi : Fm} {σ : L2.St} {H Hf : Hp} {l : LSt} {Q : VK} {ds : List D} {vs : List V} {x dx : Addr} (R : REnv c Hf σ H l) (r : RVals c.toCn c.ad Hf ds vs) (nx : H x = none) (ndx : H dx = none) (ne : dx ≠ x)
    (h : wpR (frRes l (mkC n mi ds l.g)) (PD c σ Q Hf) (PX c W σ Hf)) : spI c.toCn n mi (.ref x :: vs) (upd (upd H dx (.own x)) x (.ins (c.cA n) dx [])) (fun v H2 => v = .non ∧ Q (.ref x) H2) (WE W σ) := by
  refine make_run R.sub R.dice r nx ndx ne ?_
  cases e : mkC n mi ds l.g with
  | bad =>
    rw [e] at h
    exact h
  | ex y g =>
    rw [e] at h
    exact fun cls dd H' Hf' A rx => h cls dd H' Hf' (R.after A) A.grow rx
  | ok ev g =>
    rw [e] at h
    exact fun v H' Hf' A rv => h v H' Hf' (R.after A) A.grow rv
theorem de_make {n : Nat} {mi : Fm} (M : Mk X.K (c.cA n) f) (F : FnR X.prog X.w X.K X.mg X.base (L2.CX X.prog X.w) k f (spI c.toCn n mi)) (hr : Room (k + 1) X.A) (tk : Takes X W) (hg : Gl X x) (hm : X.mg x = some (.ref (c.cA n)))
    (ha : DA X c W (e :: es) fs) (hdb : (x == ("__debug__" : Str)) = false := by decide) (he : starEach (e :: es) X.env = (false, eval e X.env) :: starEach es X.env := by rfl) (hpl : (backTo pos (starEach es X.env)).any (·.1) = false := by rfl) :
    DE X c W (.Call (.Name x p) (e :: es) [] pos) (sCall (mkC n mi) fs) :=
  ⟨(pe_makeR M F hr (fun σ => passAt tk σ) hg hm ha.pa hdb he hpl).imp' fun σ H Q ⟨Hf, l, R, h⟩ => run_bindA PD.mo R h fun ds l1 vs H1 Hf1 R1 s1 r1 h1 x dx n1 n2 n3 => make_res R1 r1 n1 n2 n3 (by rw [← sCall_eq]; exact h1)⟩

/-! ### methods -/
/-- the methods of the name, by class -/
structure MthOk (P : Program) (w : World) (mg : Str → Option Value) (base : Heap) (cn : Cn) (k : Nat) (mn : Str) (tb : Nat → Option Fm) : Prop where
  ok : ∀ n m, tb n = some m → SlX.SCls cn.K (cn.cA n) ∧ ∃ g, Meth cn.K (cn.cA n) mn g ∧ FnR P w cn.K mg base (L2.CX P w) k g (spF cn m)
def sMth (tb : Nat → Option Fm) (fo : LSt → Res D) (fs : LSt → Res (List D)) : LSt → Res D := fun l => (fo l).bind fun d l => match d with
  | .ins n ff => (match tb n with
    | some m => (fs l).bind fun ds l => frRes l (m (.ins n ff :: ds) l.g)
    | none => .bad)
  | _ => .bad
theorem mth_run {tb : Nat → Option Fm} {σ : L2.St} {H : Hp} {Q : VK} (h : tD c W (sMth tb fo fs) σ H Q) :
    tD c W fo σ H fun x H1 => ∃ n m a dx vs, tb n = some m ∧ x = .ref a ∧ SlX.Slt H1 a (c.cA n) dx vs ∧ tA c W fs σ H1 fun ws H2 => spF c.toCn m (x :: ws) H2 Q (WE W σ) := by
  obtain ⟨Hf, l, R, h⟩ := h
  refine run_bind PD.mo R h fun d l1 x H1 Hf1 R1 s1 r1 h1 => ?_
  cases d with
  | ins n ff =>
    have h1 : wpR (match tb n with
      | some m => (fs l1).bind fun ds l => frRes l (m (.ins n ff :: ds) l.g)
      | none => .bad) (PD c σ Q Hf1) (PX c W σ Hf1) := h1
    cases e : tb n with
    | none =>
      rw [e] at h1
      exact h1.elim
    | some m =>
      rw [e] at h1
      have r0 := r1
      obtain ⟨a, dx, vs, rfl, ha, hd, rv⟩ := r1
      refine ⟨n, m, a, dx, vs.map some, e, rfl, .inr ⟨R1.sub _ _ ha, R1.sub _ _ hd⟩, ?_⟩
      exact run_bindA PD.mo R1 h1 fun ds l2 ws H2 Hf2 R2 s2 r2 h2 => spF_res R2 (.cons (r0.mono s2) r2) h2
  | _ => exact h1.elim
theorem de_mth {pl : Sem Bool} {tb : Nat → Option Fm} (hK : X.K = c.K) (ok : MthOk X.prog X.w X.mg X.base c.toCn k mn tb) (hr : Room k X.A) (tk : Takes X W) (ho : DE X c W o fo) (ha : DA X c W (e :: es) fs)
    (hst : starEach (e :: es) X.env = (false, eval e X.env) :: starEach es X.env := by rfl) (hpl : (backTo pos (starEach es X.env)).any (·.1) = false := by rfl)
    (ht : eval (.Call (.Attribute o mn apos) (e :: es) [] pos) X.env = (do
      let ov ← eval o X.env
      standAt apos.atName
      let (f, first) ← holding [ov] (getMethod ov mn pl)
      callWith pos f first (backTo pos (starEach (e :: es) X.env)) (backToKw pos (keywordEach [] X.env))) := by rfl) :
    DE X c W (.Call (.Attribute o mn apos) (e :: es) [] pos) (sMth tb fo fs) := by
  refine ⟨⟨fun pins s σ H Q I h => ?_⟩⟩
  refine PySem.W.methodCall_KW (pl := pl) (thn (ho.pe.run pins s σ H _ I (mth_run h)) fun u s1 ⟨x, H1, I1, rx, n, m, a, dx, vs, et, ex, hsl, q⟩ => ?_) ht
  subst ex
  obtain rfl : u = Value.ref a := rx
  obtain ⟨sc, g, hm, F⟩ := ok.ok n m et
  rw [← hK] at sc hm F
  refine SlX.getmethsl_ok I1 hsl sc hm ?_
  refine PySem.W.callWith_K (first := [.ref a]) (h₀ := X.base) I.ok.mod.kin hm.kp (thn (ha.pa.run pos pins s1 σ H1 _ I1 q) fun us s2 ⟨ws, H2, I2, r, q2⟩ => ⟨I2.kIn, ?_⟩) hst hpl
  exact wpAny_call (run_RS (us := .ref a :: us) (vs := .ref a :: ws) F hr (passAt tk σ) I2 (.cons rfl r) q2)
theorem de_mth0 {pl : Sem Bool} {tb : Nat → Option Fm} (hK : X.K = c.K) (ok : MthOk X.prog X.w X.mg X.base c.toCn k mn tb) (hr : Room k X.A) (tk : Takes X W) (ho : DE X c W o fo)
    (ht : eval (.Call (.Attribute o mn apos) [] [] pos) X.env = (do
      let ov ← eval o X.env
      standAt apos.atName
      let (f, first) ← holding [ov] (getMethod ov mn pl)
      callWith pos f first (backTo pos (starEach [] X.env)) (backToKw pos (keywordEach [] X.env))) := by rfl) :
    DE X c W (.Call (.Attribute o mn apos) [] [] pos) (sMth tb fo sNil) := by
  refine ⟨⟨fun pins s σ H Q I h => ?_⟩⟩
  refine PySem.W.methodCall_KW (pl := pl) (thn (ho.pe.run pins s σ H _ I (mth_run h)) fun u s1 ⟨x, H1, I1, rx, n, m, a, dx, vs, et, ex, hsl, q⟩ => ?_) ht
  subst ex
  obtain rfl : u = Value.ref a := rx
  obtain ⟨sc, g, hm, F⟩ := ok.ok n m et
  rw [← hK] at sc hm F
  refine SlX.getmethsl_ok I1 hsl sc hm ?_
  obtain ⟨Hf, l, R, h⟩ := q
  refine PySem.W.callWith_K0 (first := [.ref a]) I1.kIn hm.kp (wpAny_call (run_RS (us := [.ref a]) (vs := [.ref a]) F hr (passAt tk σ) I1 (.cons rfl .nil) (h [] H1 Hf R (Same.refl _) .nil)))
/-- e.f, a property -/
structure PrpOk (P : Program) (w : World) (mg : Str → Option Value) (base : Heap) (cn : Cn) (k : Nat) (f : Str) (tb : Nat → Option Fm) : Prop where
  ok : ∀ n m, tb n = some m → SlX.SCls cn.K (cn.cA n) ∧ ∃ p g, PySem.W.findIn cn.K (.ref (cn.cA n)) f = some (some (.ref p)) ∧ PySem.W.specialIn cn.K (.ref p) "__get__" = some (some (.builtin "property.__get__")) ∧
    PySem.W.takesIn cn.K (.ref p) = some true ∧ (∃ rest, PySem.W.recIn cn.K p "property" = some (.ref g :: rest)) ∧ FnR P w cn.K mg base (L2.CX P w) k g (spF cn m)
def sPrp (tb : Nat → Option Fm) (fo : LSt → Res D) : LSt → Res D := fun l => (fo l).bind fun d l => match d with
  | .ins n ff => (match tb n with
    | some m => (match m [.ins n ff] l.g with
      | .ok e g => .ok e.d (l.withG g)
      | _ => .bad)
    | none => .bad)
  | _ => .bad
theorem cx_false {P : Program} {w : World} {outer : List Env} {H : Hp} {s s' : Shared} {e : Value} (h : L2.CX P w outer H s (fun _ _ _ => False) e s') : False := by
  obtain ⟨_, _, _, _, _, _, _, _, _, _, _, _, z⟩ := h
  exact z.elim
theorem de_prp {tb : Nat → Option Fm} {fn : Str} (hK : X.K = c.K) (ok : PrpOk X.prog X.w X.mg X.base c.toCn k fn tb) (hr : Room (k + 1) X.A) (he : DE X c W e fo) (hb : attributeBase e fn X.env (eval e X.env) = eval e X.env := by rfl) : DE X c W (.Attribute e fn pos) (sPrp tb fo) := by
  refine ⟨⟨fun pins s σ H Q I h => ?_⟩⟩
  have h2 : tD c W fo σ H fun x H1 => ∃ n m a dx vs, tb n = some m ∧ x = .ref a ∧ SlX.Slt H1 a (c.cA n) dx vs ∧ spF c.toCn m [x] H1 Q (fun _ _ _ => False) := by
    obtain ⟨Hf, l, R, h⟩ := h
    refine run_bind PD.mo R h fun d l1 x H1 Hf1 R1 s1 r1 h1 => ?_
    cases d with
    | ins n ff =>
      have h1 : wpR (match tb n with
        | some m => (match m [.ins n ff] l1.g with
          | .ok e g => .ok e.d (l1.withG g)
          | _ => .bad)
        | none => .bad) (PD c σ Q Hf1) (PX c W σ Hf1) := h1
      cases e : tb n with
      | none =>
        rw [e] at h1
        exact h1.elim
      | some m =>
        rw [e] at h1
        have r0 := r1
        obtain ⟨a, dx, vs, rfl, ha, hd, rv⟩ := r1
        refine ⟨n, m, a, dx, vs.map some, e, rfl, .inr ⟨R1.sub _ _ ha, R1.sub _ _ hd⟩, ?_⟩
        have h1 : wpR (match m [.ins n ff] l1.g with
          | .ok e g => .ok e.d (l1.withG g)
          | _ => .bad) (PD c σ Q Hf1) (PX c W σ Hf1) := h1
        have z := spF_of (W := fun _ _ _ _ => False) (m := m) (Q := Q) R1 (.cons r0 .nil) (by
          cases e2 : m [.ins n ff] l1.g with
          | ok ev g =>
            rw [e2] at h1
            exact h1
          | ex y g =>
            rw [e2] at h1
            exact h1.elim
          | bad =>
            rw [e2] at h1
            exact h1)
        exact z
    | _ => exact h1.elim
  refine attr_of hb (thn (he.pe.run pins s σ H _ I h2) fun u s1 ⟨x, H1, I1, rx, n, m, a, dx, vs, et, ex, hsl, q⟩ => ?_)
  subst ex
  obtain rfl : u = Value.ref a := rx
  obtain ⟨sc, p, g, at_, get, tk, rc, F⟩ := ok.ok n m et
  rw [← hK] at sc at_ get tk rc F
  exact SlX.getprop_sl I1 hsl sc at_ get tk rc F hr (fun _ _ _ _ z => cx_false z) q
end
end Dx

/-! Dx.Self: self within __init__; what an __init__ promises. -/
namespace Dx
open PySem PySem.Spec PyProof.Rows L2

def putO (i : Nat) (d : D) (fs : List (Option D)) : List (Option D) := (fs ++ List.replicate (i + 1 - fs.length) none).set i (some d)
theorem ROs.put {cn : Cn} {ad : Ad} {Hf : Hp} {fs : List (Option D)} {us : List (Option V)} {d : D} {v : V} (r : ROs cn ad Hf fs us) (i : Nat) (h : RVal cn ad Hf d v) : ROs cn ad Hf (putO i d fs) (SlX.putS i v us) := by
  refine ⟨?_, fun j e q => ?_⟩
  · unfold putO SlX.putS
    simp only [List.length_set, List.length_append, List.length_replicate]
    rw [r.1]
  · by_cases hj : j = i
    · subst hj
      unfold putO at q
      rw [List.getElem?_set_self (by simp only [List.length_append, List.length_replicate]; omega)] at q
      cases q
      exact ⟨v, SlX.putS_get _ _ _, h⟩
    · unfold putO at q
      rw [List.getElem?_set_ne (Ne.symm hj)] at q
      by_cases hl : j < fs.length
      · rw [List.getElem?_append_left hl] at q
        obtain ⟨w, h1, h2⟩ := r.2 j e q
        exact ⟨w, (SlX.putS_ne hj).mpr h1, h2⟩
      · rw [List.getElem?_append_right (by omega), List.getElem?_replicate] at q
        split at q
        · cases q
        · cases q
/-- a field of the object that is being made is stored -/
theorem REnv.setf {c : Ac} {Hf H : Hp} {σ : L2.St} {l : LSt} (R : REnv c Hf σ H l) {n : Nat} {fs : List (Option D)} {us : List (Option V)} {i : Nat} {d : D} {v : V} (hob : l.g.ob = some (n, fs)) (hs : SlX.Slt H c.ad.oa (c.cA n) c.ad.od us) (r : ROs c.toCn c.ad Hf fs us) (rv : RVal c.toCn c.ad Hf d v) :
    REnv c Hf σ (SlX.slH H c.ad.oa (c.cA n) c.ad.od (SlX.putS i v us)) { l with g := { l.g with ob := some (n, putO i d fs) } } := by
  obtain ⟨q1, q2, q3, q4, _, _, _⟩ := R.dice.obj n fs hob
  have hsome : l.g.sh.2 = true := by
    show l.g.ob.isSome = true
    rw [hob]
    rfl
  have hne : ∀ {a : Addr}, ¬ isD l.g c.ad a → a ≠ c.ad.oa ∧ a ≠ c.ad.od := fun {a} nd => ⟨fun z => nd (.inr ⟨hsome, .inl z⟩), fun z => nd (.inr ⟨hsome, .inr z⟩)⟩
  have sh : ({ l.g with ob := some (n, putO i d fs) } : G).sh = l.g.sh := by
    show (l.g.d.isSome, true) = (l.g.d.isSome, l.g.ob.isSome)
    rw [hob]
    rfl
  have isd : ∀ a, isD ({ l.g with ob := some (n, putO i d fs) } : G) c.ad a ↔ isD l.g c.ad a := fun a => isD_iff sh
  have keep : ∀ a, a ≠ c.ad.oa → a ≠ c.ad.od → SlX.slH H c.ad.oa (c.cA n) c.ad.od (SlX.putS i v us) a = H a := fun a h1 h2 => SlX.slH_ne h1 h2
  refine ⟨R.len, fun j s hj => ?_, R.dis, fun b u hb => ?_, R.base, fun b u hb => ?_, ⟨fun x y z q => ?_, fun k gs q => ?_⟩, sh.trans R.hgs⟩
  · obtain ⟨x, e, q⟩ := R.slot j s hj
    refine ⟨x, e, ?_⟩
    cases s with
    | un => exact True.intro
    | slf => exact q
    | v d => exact q
    | own co' =>
      obtain ⟨a', o', qa, ha', r', n', n0', nd'⟩ := q
      obtain ⟨e1, e2⟩ := hne nd'
      exact ⟨a', o', qa, by rw [keep a' e1 e2]; exact ha', r', n', n0', fun z => nd' ((isd a').mp z)⟩
  · have e1 : b ≠ c.ad.oa := fun z => by
      rw [z, q1] at hb
      cases hb
    have e2 : b ≠ c.ad.od := fun z => by
      rw [z, q2] at hb
      cases hb
    rw [keep b e1 e2]
    exact R.sub b u hb
  · obtain ⟨f1, f2, f3⟩ := R.frame b u hb
    obtain ⟨e1, e2⟩ := hne f3
    exact ⟨by rw [keep b e1 e2]; exact f1, f2, fun z => f3 ((isd b).mp z)⟩
  · obtain ⟨h1, h2⟩ := R.dice.dc x y z q
    have e1 : c.ad.d ≠ c.ad.oa := fun w => by
      rcases hs with ⟨h, _⟩ | ⟨h, _⟩
      · rw [← w, h2] at h
        cases h
      · rw [← w, h2] at h
        unfold SlX.SlO at h
        cases h
    have e2 : c.ad.d ≠ c.ad.od := fun w => by
      rcases q4 with h | h
      · rw [← w, h2] at h
        cases h
      · rw [← w, h2] at h
        cases h
    exact ⟨h1, by rw [keep _ e1 e2]; exact h2⟩
  · cases q
    refine ⟨q1, q2, q3, .inr ?_, SlX.putS i v us, SlX.slH_slt q3, r.put i rv⟩
    unfold SlX.slH
    rw [upd_ne q3, upd_same]
def sSelf (i : Nat) (tb : Nat → Option Nat) : LSt → Res D := fun l => match l.sl[i]? with
  | some .slf => (match l.g.ob with
    | some (n, fs) => opt ((tb n).bind fun j => (fs[j]?).bind id) l
    | none => .bad)
  | _ => .bad
def zSelf (i : Nat) (tb : Nat → Option Nat) (fe : LSt → Res D) : LSt → Fl := fun l => (fe l).toFl fun d l => match l.sl[i]? with
  | some .slf => (match l.g.ob with
    | some (n, fs) => (match tb n with
      | some j => .nx { l with g := { l.g with ob := some (n, putO j d fs) } }
      | none => .bad)
    | none => .bad)
  | _ => .bad
section
variable {X : Cx} {c : Ac} {W : WX} {e : Expr} {pos pos' np : Pos} {fe : LSt → Res D} {f x : Str} {tb : Nat → Option Nat} {i : Nat}
theorem de_self (hK : X.K = c.K) (ok : AttrOk c.toCn f tb) (p : PE X (.Name x np) (tVar i)) (hb : attributeBase (.Name x np) f X.env (eval (.Name x np) X.env) = eval (.Name x np) X.env := by rfl) : DE X c W (.Attribute (.Name x np) f pos) (sSelf i tb) :=
  ⟨(SlX.pe_sl p hb).imp' fun σ H Q ⟨Hf, l, R, h⟩ => by
    unfold sSelf at h
    cases e1 : l.sl[i]? with
    | none =>
      rw [e1] at h
      exact h.elim
    | some s =>
      rw [e1] at h
      cases s with
      | slf =>
        obtain ⟨x0, ex, rs⟩ := R.slot i _ e1
        have rs' : x0 = some (.ref c.ad.oa) := rs
        rw [rs'] at ex
        refine ⟨.ref c.ad.oa, ex, ?_⟩
        have h : wpR (match l.g.ob with
          | some (n, fs) => opt ((tb n).bind fun j => (fs[j]?).bind id) l
          | none => .bad) (PD c σ Q Hf) (PX c W σ Hf) := h
        cases e2 : l.g.ob with
        | none =>
          rw [e2] at h
          exact h.elim
        | some t =>
          obtain ⟨n, fs⟩ := t
          rw [e2] at h
          have h : wpR (opt ((tb n).bind fun j => (fs[j]?).bind id) l) (PD c σ Q Hf) (PX c W σ Hf) := h
          cases e3 : tb n with
          | none =>
            rw [e3] at h
            exact h.elim
          | some j =>
            rw [e3] at h
            have h : wpR (opt ((fs[j]?).bind id) l) (PD c σ Q Hf) (PX c W σ Hf) := h
            cases e4 : fs[j]? with
            | none =>
              rw [e4] at h
              exact h.elim
            | some o =>
              rw [e4] at h
              cases o with
              | none => exact h.elim
              | some d =>
                obtain ⟨q1, q2, q3, q4, us, q5, q6⟩ := R.dice.obj n fs e2
                obtain ⟨v, ev, rv⟩ := q6.2 j d e4
                obtain ⟨sc, p, sl⟩ := ok n j e3
                refine ⟨c.ad.oa, c.cA n, c.ad.od, p, us, j, v, rfl, q5, ?_, ?_, ev, PD.flat R h rv⟩
                · rw [hK]
                  exact sc
                · rw [hK]
                  exact sl
      | _ => exact h.elim⟩
theorem ds_self (hK : X.K = c.K) (ok : AttrOk c.toCn f tb) (p : PE X (.Name x np) (tVar i)) (he : DE X c W e fe) (hs : swapsWith e (some (.Attribute (.Name x np) f pos')) pos.line X.env = pure false := by rfl) : DS X c W (.Assign [.Attribute (.Name x np) f pos'] e pos) (zSelf i tb fe) :=
  ⟨(SlX.ps_sl p he.pe hs).imp' fun D σ H ⟨Hf, l, R, h⟩ => to_bind R h fun d l1 v H1 Hf1 R1 s1 r1 h1 => by
    cases e1 : l1.sl[i]? with
    | none =>
      rw [e1] at h1
      exact h1.elim
    | some s =>
      rw [e1] at h1
      cases s with
      | slf =>
        obtain ⟨x0, ex, rs⟩ := R1.slot i _ e1
        have rs' : x0 = some (.ref c.ad.oa) := rs
        rw [rs'] at ex
        refine ⟨.ref c.ad.oa, ex, ?_⟩
        have h1 : wpF c W D Hf1 (match l1.g.ob with
          | some (n, fs) => (match tb n with
            | some j => .nx { l1 with g := { l1.g with ob := some (n, putO j d fs) } }
            | none => .bad)
          | none => .bad) := h1
        cases e2 : l1.g.ob with
        | none =>
          rw [e2] at h1
          exact h1.elim
        | some t =>
          obtain ⟨n, fs⟩ := t
          rw [e2] at h1
          have h1 : wpF c W D Hf1 (match tb n with
            | some j => .nx { l1 with g := { l1.g with ob := some (n, putO j d fs) } }
            | none => .bad) := h1
          cases e3 : tb n with
          | none =>
            rw [e3] at h1
            exact h1.elim
          | some j =>
            rw [e3] at h1
            obtain ⟨q1, q2, q3, q4, us, q5, q6⟩ := R1.dice.obj n fs e2
            obtain ⟨sc, p, sl⟩ := ok n j e3
            refine ⟨c.ad.oa, c.cA n, c.ad.od, p, us, j, rfl, q5, ?_, ?_, h1 σ _ Hf1 (R1.setf e2 q5 q6 r1) (Same.refl _)⟩
            · rw [hK]
              exact sc
            · rw [hK]
              exact sl
      | _ => exact h1.elim⟩
end
/-! ### what an __init__ promises -/
def mOfI (n k : Nat) (fb : LSt → Fl) : Fm := fun ds g => if ds.length + 1 = k then (fb ⟨.slf :: ds.map .v ++ List.replicate (n - k) .un, g⟩).fr else .bad
theorem env_startI {cn : Cn} {ad : Ad} {Hf H : Hp} {ds : List D} {vs : List V} {g : G} {N : List Str} (s : Same Hf H) (d : DiceOk cn Hf H ad g) (r : RVals cn ad Hf ds vs) :
    REnv { toCn := cn, hid := hidOf H Hf g ad, Hf0 := Hf, ad := ad, gs := g.sh } Hf (L2.start N (.ref ad.oa :: vs)) H ⟨.slf :: ds.map .v ++ List.replicate (N.length - (ds.length + 1)) .un, g⟩ := by
  have lens : (L2.start N (V.ref ad.oa :: vs)) = some (V.ref ad.oa) :: (vs.map some ++ List.replicate (N.length - (vs.length + 1)) none) := rfl
  have sls : (Slot.slf :: ds.map Slot.v ++ List.replicate (N.length - (ds.length + 1)) Slot.un) = Slot.slf :: (ds.map Slot.v ++ List.replicate (N.length - (ds.length + 1)) Slot.un) := rfl
  refine ⟨?_, fun i x h => ?_, fun i j x y a h _ o _ _ _ => ?_, s, Same.refl _, fun _ _ h => hidOf_some h, d, rfl⟩
  · rw [lens, sls]
    simp only [List.length_cons, List.length_append, List.length_map, List.length_replicate]
    rw [r.length]
  · have h' : (Slot.slf :: (ds.map Slot.v ++ List.replicate (N.length - (ds.length + 1)) Slot.un))[i]? = some x := h
    rw [lens]
    cases i with
    | zero =>
      cases h'
      exact ⟨_, rfl, rfl⟩
    | succ i =>
      rw [List.getElem?_cons_succ] at h' ⊢
      by_cases hi : i < ds.length
      · rw [List.getElem?_append_left (by rw [List.length_map]; exact hi), List.getElem?_map, List.getElem?_eq_getElem hi] at h'
        cases h'
        obtain ⟨v, e1, e2⟩ := r.get (List.getElem?_eq_getElem hi)
        refine ⟨some v, ?_, v, rfl, e2⟩
        rw [List.getElem?_append_left (by rw [List.length_map, ← r.length]; exact hi), List.getElem?_map, e1]
        rfl
      · rw [List.getElem?_append_right (by rw [List.length_map]; omega), List.length_map, List.getElem?_replicate] at h'
        split at h'
        · rename_i hl
          cases h'
          refine ⟨none, ?_, True.intro⟩
          rw [List.getElem?_append_right (by rw [List.length_map, ← r.length]; omega), List.length_map, List.getElem?_replicate, ← r.length, if_pos hl]
        · cases h'
  · exfalso
    have h' : (Slot.slf :: (ds.map Slot.v ++ List.replicate (N.length - (ds.length + 1)) Slot.un))[i]? = some x := h
    cases i with
    | zero =>
      cases h'
      cases o
    | succ i =>
      rw [List.getElem?_cons_succ] at h'
      by_cases hi : i < ds.length
      · rw [List.getElem?_append_left (by rw [List.length_map]; exact hi), List.getElem?_map, List.getElem?_eq_getElem hi] at h'
        cases h'
        cases o
      · rw [List.getElem?_append_right (by rw [List.length_map]; omega), List.length_map, List.getElem?_replicate] at h'
        split at h'
        · cases h'
          cases o
        · cases h'
section
variable {P : Program} {w : World} {K : PySem.W.Frag} {mg : Str → Option Value} {base : Heap}
/-- the end of a body, as a def's -/
def EndW (cn : Cn) (ad : Ad) (g : G) (H Hf : Hp) (Q : VK) (E : XK) : FR → Prop
  | .ok e g' => ∀ v H' Hf', Aft cn ad g g' H Hf H' Hf' → REV cn ad H Hf' H' g' e v → Q v H'
  | .ex x g' => ∀ cls dd H' Hf', Aft cn ad g g' H Hf H' Hf' → RX cn ad Hf' x cls dd → E cls dd H'
  | .bad => False
theorem ends_ok {cn : Cn} {ad : Ad} {g : G} {H Hf : Hp} {Q : VK} {E : XK} {fl : Fl} (h : EndW cn ad g H Hf Q E fl.fr) : wpF { toCn := cn, hid := hidOf H Hf g ad, Hf0 := Hf, ad := ad, gs := g.sh } (fun cls d _ H' => E cls d H') { nx := fun _ H' => Q .non H', rt := Q } Hf fl := by
  have aft : ∀ {σ' : L2.St} {H' Hf' : Hp} {l : LSt}, REnv { toCn := cn, hid := hidOf H Hf g ad, Hf0 := Hf, ad := ad, gs := g.sh } Hf' σ' H' l → Aft cn ad g l.g H Hf H' Hf' := fun {σ' H' Hf' l} R => ⟨R.base, R.sub, fun a o h1 h2 h3 => ⟨(R.frame a o (hidOf_of h1 h2 h3)).1, (R.frame a o (hidOf_of h1 h2 h3)).2.1⟩, R.dice, R.hgs⟩
  cases fl with
  | nx l => exact fun σ' H' Hf' R _ => h .non H' Hf' (aft R) rfl
  | rt ev l =>
    refine fun v σ' H' Hf' R _ rv => h v H' Hf' (aft R) ?_
    cases ev with
    | v d => exact rv
    | o co =>
      obtain ⟨a, o, e1, ha, rc, n, n0, nd⟩ := rv
      refine ⟨a, o, e1, ha, rc, n, ?_, nd⟩
      cases e2 : H a with
      | none => rfl
      | some u =>
        exfalso
        by_cases hf : Hf a = none
        · have hd : ¬ isD g ad a := fun z => nd ((isD_iff R.hgs).mpr z)
          have := hidOf_of e2 hf hd
          have n0' : hidOf H Hf g ad a = none := n0
          rw [n0'] at this
          cases this
        · cases e3 : Hf a with
          | none => exact hf e3
          | some w =>
            have := R.base _ _ e3
            rw [n] at this
            cases this
  | ex x l => exact fun cls dd σ' H' Hf' R _ rx => h cls dd H' Hf' (aft R) rx
  | bk l => exact h.elim
  | ct l => exact h.elim
  | bad => exact h.elim
/-- a def of the text (with defaults), by its body -/
theorem fnD_ok {cn : Cn} {x qual : Str} {params : Arguments} {body : List Stmt} {scope : Scope} {dvs : List V} {kws : List (Str × V)} {f : Addr} {fd : FuncData} {N ps : List Str} {k : Nat} {fb : LSt → Fl} (F : FunD K x qual params body scope dvs kws f fd) (S : FnScope N ps scope)
    (hbody : ∀ (cdv : Value) (A : Around) (outer : List Env) (s : Shared) (H : Hp) (E : XK) (c : Ac), c.toCn = cn → Room k (A.deeper (envOfC qual scope s.heap.objs.size f cdv)) →
      DSs (cxOf (L2.CX P w) P w K mg base N qual scope f cdv A outer s H E) c (fun cls d _ H' => E cls d H') body fb) : FnOk P w K mg base (L2.CX P w) (k + 1) f fd ps (fun vs H Q E => vs.length = ps.length ∧ spF cn (mOf N.length ps.length fb) vs H Q E) := by
  refine F.ok S (fun vs H Q E h => h.1) (fun cdv A outer s H vs Q E hr h => ?_)
  obtain ⟨hl, Hf, ad, ds, g, sm, dc, r, h⟩ := h
  refine ⟨_, (hbody cdv A outer s H E { toCn := cn, hid := hidOf H Hf g ad, Hf0 := Hf, ad := ad, gs := g.sh } rfl hr).pss, Hf, _, env_start (N := N) sm dc r, ?_⟩
  have hd : ds.length = ps.length := by rw [r.length, hl]
  refine ends_ok ?_
  have h' : EndW cn ad g H Hf Q E (mOf N.length ps.length fb ds g) := by
    cases e : mOf N.length ps.length fb ds g with
    | ok ev g' => rw [e] at h; exact h
    | ex x g' => rw [e] at h; exact h
    | bad => rw [e] at h; exact h
  unfold mOf at h'
  rw [if_pos hd] at h'
  rw [hd]
  exact h'
theorem init_ok {cn : Cn} {x qual : Str} {params : Arguments} {body : List Stmt} {scope : Scope} {dvs : List V} {kws : List (Str × V)} {f : Addr} {fd : FuncData} {N ps : List Str} {k n : Nat} {fb : LSt → Fl} (F : FunD K x qual params body scope dvs kws f fd) (S : FnScope N ps scope)
    (hbody : ∀ (cdv : Value) (A : Around) (outer : List Env) (s : Shared) (H : Hp) (E : XK) (c : Ac), c.toCn = cn → Room k (A.deeper (envOfC qual scope s.heap.objs.size f cdv)) →
      DSs (cxOf (L2.CX P w) P w K mg base N qual scope f cdv A outer s H E) c (fun cls d _ H' => E cls d H') body fb) : FnOk P w K mg base (L2.CX P w) (k + 1) f fd ps (fun vs H Q E => vs.length = ps.length ∧ spI cn n (mOfI N.length ps.length fb) vs H Q E) := by
  refine F.ok S (fun vs H Q E h => h.1) (fun cdv A outer s H vs Q E hr h => ?_)
  obtain ⟨hl, Hf, ad, ds, g, vs', rfl, hob, sm, dc, r, h⟩ := h
  refine ⟨_, (hbody cdv A outer s H E { toCn := cn, hid := hidOf H Hf g ad, Hf0 := Hf, ad := ad, gs := g.sh } rfl hr).pss, Hf, _, env_startI (N := N) sm dc r, ?_⟩
  have hd : ds.length + 1 = ps.length := by
    rw [r.length, ← hl]
    rfl
  refine ends_ok ?_
  have h' : EndW cn ad g H Hf Q E (mOfI N.length ps.length fb ds g) := by
    cases e : mOfI N.length ps.length fb ds g with
    | ok ev g' => rw [e] at h; exact h
    | ex x g' => rw [e] at h; exact h
    | bad => rw [e] at h; exact h
  unfold mOfI at h'
  rw [if_pos hd] at h'
  rw [hd]
  exact h'
/-- defaults of flat data -/
def FlatD (cn : Cn) (dd : List D) (dvs : List V) : Prop := ∀ ad Hf, RVals cn ad Hf dd dvs
/-- a plain function that is a def's, wherever it is asked at all -/
structure Is (m m' : Fm) : Prop where
  eq : ∀ ds g, m' ds g ≠ .bad → m ds g = m' ds g
theorem spF_is {cn : Cn} {m m' : Fm} (i : Is m m') {vs : List V} {H : Hp} {Q : VK} {E : XK} (h : spF cn m' vs H Q E) : spF cn m vs H Q E := by
  obtain ⟨Hf, ad, ds, g, sm, dc, r, q⟩ := h
  refine ⟨Hf, ad, ds, g, sm, dc, r, ?_⟩
  rw [i.eq ds g (fun z => by rw [z] at q; exact q)]
  exact q
/-- from a def's promise to its calls with so many arguments written, dd filled up -/
theorem fnr_of {cn : Cn} {f : Addr} {fd : FuncData} {ps : List Str} {k n p : Nat} {fb : LSt → Fl} {m : Fm} {dd : List D} {dvs : List V} {ds : List Value} (F : FnOk P w K mg base (L2.CX P w) k f fd ps (fun vs H Q E => vs.length = ps.length ∧ spF cn (mOf n p fb) vs H Q E)) (hp : ps.length = p)
    (hb : L2.Binds K fd ps ds) (hd : Vals dvs ds) (fl : FlatD cn dd dvs) (i : ∀ xs g, m xs g ≠ .bad → mOf n p fb (xs ++ dd) g = m xs g) : FnR P w K mg base (L2.CX P w) k f (spF cn m) := by
  refine (F.raw hb hd).imp fun vs H Q E h => ?_
  obtain ⟨Hf, ad, xs, g, sm, dc, r, q⟩ := h
  have nb : m xs g ≠ .bad := fun z => by
    rw [z] at q
    exact q
  have e := i xs g nb
  have r2 : RVals cn ad Hf (xs ++ dd) (vs ++ dvs) := r.append (fl ad Hf)
  refine ⟨?_, Hf, ad, xs ++ dd, g, sm, dc, r2, by rw [e]; exact q⟩
  rw [← r2.length, hp]
  unfold mOf at e
  split at e
  · assumption
  · exact absurd e.symm nb
theorem fnr_ofI {cn : Cn} {f : Addr} {fd : FuncData} {ps : List Str} {k n p c : Nat} {fb : LSt → Fl} {m : Fm} {dd : List D} {dvs : List V} {ds : List Value} (F : FnOk P w K mg base (L2.CX P w) k f fd ps (fun vs H Q E => vs.length = ps.length ∧ spI cn c (mOfI n p fb) vs H Q E)) (hp : ps.length = p)
    (hb : L2.Binds K fd ps ds) (hd : Vals dvs ds) (fl : FlatD cn dd dvs) (i : ∀ xs g, m xs g ≠ .bad → mOfI n p fb (xs ++ dd) g = m xs g) : FnR P w K mg base (L2.CX P w) k f (spI cn c m) := by
  refine (F.raw hb hd).imp fun vs H Q E h => ?_
  obtain ⟨Hf, ad, xs, g, vs', rfl, hob, sm, dc, r, q⟩ := h
  have nb : m xs g ≠ .bad := fun z => by
    rw [z] at q
    exact q
  have e := i xs g nb
  have r2 : RVals cn ad Hf (xs ++ dd) (vs' ++ dvs) := r.append (fl ad Hf)
  refine ⟨?_, Hf, ad, xs ++ dd, g, vs' ++ dvs, rfl, hob, sm, dc, r2, by rw [e]; exact q⟩
  show (V.ref ad.oa :: (vs' ++ dvs)).length = ps.length
  rw [List.length_cons, ← r2.length, hp]
  unfold mOfI at e
  split at e
  · assumption
  · exact absurd e.symm nb
end
end Dx

/-! Dx.Blt: what is not covered; chains; built-in functions; globals; texts with fields. -/
namespace Dx
open PySem PySem.Spec PyProof.Rows L2

/-! ### not covered: nothing is told of it -/
section
variable {X : Cx} {c : Ac} {W : WX}
theorem de_bad {e : Expr} : DE X c W e fun _ => .bad := ⟨⟨fun pins s σ H Q I ⟨_, _, _, h⟩ => h.elim⟩⟩
theorem dt_bad {e : Expr} : DT X c W e fun _ => .bad := ⟨⟨fun pins s σ H Q I ⟨_, _, _, h⟩ => h.elim⟩⟩
theorem do_bad {e : Expr} : DO X c W e fun _ => .bad := ⟨⟨fun pins s σ H Q I ⟨_, _, _, h⟩ => h.elim⟩⟩
theorem ds_bad {e : Stmt} : DS X c W e fun _ => .bad := ⟨⟨fun pins s σ H D I ⟨_, _, _, h⟩ => h.elim⟩⟩
theorem dss_bad {e : List Stmt} : DSs X c W e fun _ => .bad := ⟨⟨fun pins s σ H D I ⟨_, _, _, h⟩ => h.elim⟩⟩
end

/-! ### chains -/
def sChain (g g' : D → D → Option D) (a b k : LSt → Res D) : LSt → Res D := fun l => (a l).bind fun x l => (b l).bind fun y l => (opt (g x y) l).bind fun z l => match z with
  | .bl true => (k l).bind fun w l => opt (g' y w) l
  | .bl false => .ok (.bl false) l
  | _ => .bad
section
variable {X : Cx} {c : Ac} {W : WX} {a b k : Expr} {pos : Pos} {fa fb fk : LSt → Res D} {op op' : CmpOp} {r r' : R2} {g g' : D → D → Option D}
theorem chain_run (ok : BinOk c r g) (ok' : BinOk c r' g') {σ : L2.St} {H : Hp} {Q : VK} (h : tD c W (sChain g g' fa fb fk) σ H Q) : tChain r r' (tD c W fa) (tD c W fb) (tD c W fk) σ H Q := by
  obtain ⟨Hf, l, R, h⟩ := h
  refine run_bind PD.mo R h fun d1 l1 x H1 Hf1 R1 s1 r1 h1 => ?_
  refine run_bind PD.mo R1 h1 fun d2 l2 y H2 Hf2 R2 s2 r2 h2 => ?_
  have h2 : wpR ((opt (g d1 d2) l2).bind fun z l => match z with
    | .bl true => (fk l).bind fun w l => opt (g' d2 w) l
    | .bl false => .ok (.bl false) l
    | _ => .bad) (PD c σ Q Hf2) (PX c W σ Hf2) := h2
  cases e : g d1 d2 with
  | none =>
    rw [e] at h2
    exact h2.elim
  | some d =>
    rw [e] at h2
    refine ok Hf2 H2 σ l2 d1 d2 d x y _ R2 (r1.mono s2) r2 e fun v H3 Hf3 R3 s3 r3 => ?_
    cases d with
    | bl z =>
      cases z with
      | false => exact ⟨false, r3, h2 _ H3 Hf3 R3 s3 rfl⟩
      | true =>
        refine ⟨true, r3, ?_⟩
        rw [if_pos rfl]
        have h3 : wpR ((fk l2).bind fun w l => opt (g' d2 w) l) (PD c σ Q Hf3) (PX c W σ Hf3) := wpR.mono PD.mo s3 h2
        refine run_bind PD.mo R3 h3 fun d4 l4 w H4 Hf4 R4 s4 r4 h4 => ?_
        cases e2 : g' d2 d4 with
        | none =>
          rw [e2] at h4
          exact h4.elim
        | some d' =>
          rw [e2] at h4
          exact ok' Hf4 H4 σ l4 d2 d4 d' y w Q R4 ((r2.mono s3).mono s4) r4 e2 h4
    | _ => exact h2.elim
theorem de_chain (ho : OpR X (compareOp op) r) (ok : BinOk c r g) (ho' : OpR X (compareOp op') r') (ok' : BinOk c r' g') (ha : DE X c W a fa) (hb : DE X c W b fb) (hk : DE X c W k fk)
    (hm : lastMarks [op, op'] [b, k] = false := by with_unfolding_all rfl) : DE X c W (.Compare a [op, op'] [b, k] pos) (sChain g g' fa fb fk) :=
  ⟨(pe_chain ho ho' ha.pe hb.pe hk.pe hm).imp' fun _ _ _ h => chain_run ok ok' h⟩
theorem dt_chain (ho : OpR X (compareOp op) r) (ok : BinOk c r g) (ho' : OpR X (compareOp op') r') (ok' : BinOk c r' g') (ha : DE X c W a fa) (hb : DE X c W b fb) (hk : DE X c W k fk)
    (hm : lastMarks [op, op'] [b, k] = false := by with_unfolding_all rfl) : DT X c W (.Compare a [op, op'] [b, k] pos) (sTst (sChain g g' fa fb fk)) :=
  ⟨(pt_chain ho ho' ha.pe hb.pe hk.pe hm).imp' fun _ _ _ h => by
    obtain ⟨Hf, l, R, h⟩ := h
    refine chain_run ok ok' ⟨Hf, l, R, ?_⟩
    have h' : wpR ((sChain g g' fa fb fk l).bind fun d l => opt (blD d) l) (PB c _ _ Hf) (PX c W _ Hf) := h
    cases e : sChain g g' fa fb fk l with
    | bad =>
      rw [e] at h'
      exact h'
    | ex x l1 =>
      rw [e] at h'
      exact h'
    | ok d l1 =>
      rw [e] at h'
      cases d with
      | bl k => exact fun v H' Hf' R' s' r' => ⟨k, r', h' H' Hf' R' s'⟩
      | _ => exact h'.elim⟩
/-! ### and, or as values -/
def sAndV (a b : LSt → Res D) : LSt → Res D := fun l => (a l).bind fun x l => match x with
  | .bl true => b l
  | .bl false => .ok (.bl false) l
  | _ => .bad
def sOrV (a b : LSt → Res D) : LSt → Res D := fun l => (a l).bind fun x l => match x with
  | .bl false => b l
  | .bl true => .ok (.bl true) l
  | _ => .bad
def notD : D → Option D
  | .bl b => some (.bl (!b))
  | _ => none
variable {rest : List Expr}
theorem de_one {op : BoolOp} (ha : DE X c W a fa) : DE X c W (.BoolOp op [a] pos) fa := ⟨pe_one ha.pe⟩
theorem de_and (ha : DE X c W a fa) (hb : DE X c W (.BoolOp .And (b :: rest) pos) fb) : DE X c W (.BoolOp .And (a :: b :: rest) pos) (sAndV fa fb) :=
  ⟨(pe_and ha.pe hb.pe).imp' fun _ _ _ ⟨Hf, l, R, h⟩ => run_bind PD.mo R h fun d l1 v H1 Hf1 R1 s1 r1 h1 => by
    cases d with
    | bl z =>
      cases z with
      | true => exact ⟨true, r1, by rw [if_pos rfl]; exact ⟨Hf1, l1, R1, h1⟩⟩
      | false => exact ⟨false, r1, by rw [if_neg (by decide)]; exact h1 _ H1 Hf1 R1 (Same.refl _) rfl⟩
    | _ => exact h1.elim⟩
theorem de_or (ha : DE X c W a fa) (hb : DE X c W (.BoolOp .Or (b :: rest) pos) fb) : DE X c W (.BoolOp .Or (a :: b :: rest) pos) (sOrV fa fb) :=
  ⟨(pe_or ha.pe hb.pe).imp' fun _ _ _ ⟨Hf, l, R, h⟩ => run_bind PD.mo R h fun d l1 v H1 Hf1 R1 s1 r1 h1 => by
    cases d with
    | bl z =>
      cases z with
      | true => exact ⟨true, r1, by rw [if_pos rfl]; exact h1 _ H1 Hf1 R1 (Same.refl _) rfl⟩
      | false => exact ⟨false, r1, by rw [if_neg (by decide)]; exact ⟨Hf1, l1, R1, h1⟩⟩
    | _ => exact h1.elim⟩
theorem de_not (ha : DE X c W a fa) : DE X c W (.UnaryOp .Not a pos) (sUn notD fa) :=
  ⟨(pe_not ha.pe).imp' fun _ _ _ ⟨Hf, l, R, h⟩ => run_bind PD.mo R h fun d l1 v H1 Hf1 R1 s1 r1 h1 => by
    cases d with
    | bl z => exact ⟨z, r1, h1 _ H1 Hf1 R1 (Same.refl _) rfl⟩
    | _ => exact h1.elim⟩
end

/-! ### built-in functions -/
section
variable {X : Cx} {c : Ac} {W : WX} {e : Expr} {es : List Expr} {fs : LSt → Res (List D)} {x : Str} {p pos : Pos} {id T : String} {r : List V → Hp → VK → Prop} {g : List D → Option D}
theorem de_blt (hc : CallR X (.builtin id) r) (ok : BltOk c r g) (hg : Gl X x) (hm : X.mg x = none) (hb : bootBuiltins x = some (.builtin id)) (ha : DA X c W (e :: es) fs) (hn : x ≠ "__name__" := by decide) (hdb : (x == ("__debug__" : Str)) = false := by decide)
    (he : starEach (e :: es) X.env = (false, eval e X.env) :: starEach es X.env := by rfl) (hpl : (backTo pos (starEach es X.env)).any (·.1) = false := by rfl) : DE X c W (.Call (.Name x p) (e :: es) [] pos) (sBlt g fs) :=
  ⟨(pe_callB hc hg hm hb ha.pa hn hdb he hpl).imp' fun _ _ _ h => blt_run ok h⟩
theorem de_bltT (hc : CallR X (.type T) r) (ok : BltOk c r g) (hg : Gl X x) (hm : X.mg x = none) (hb : bootBuiltins x = some (.type T)) (ha : DA X c W (e :: es) fs) (hn : x ≠ "__name__" := by decide) (hdb : (x == ("__debug__" : Str)) = false := by decide)
    (he : starEach (e :: es) X.env = (false, eval e X.env) :: starEach es X.env := by rfl) (hpl : (backTo pos (starEach es X.env)).any (·.1) = false := by rfl) : DE X c W (.Call (.Name x p) (e :: es) [] pos) (sBlt g fs) :=
  ⟨(pe_callTy hc hg hm hb ha.pa hn hdb he hpl).imp' fun _ _ _ h => blt_run ok h⟩
def lenD : List D → Option D
  | [.str y] => if y.length ≤ szL then some (.int (y.length : Nat)) else none
  | [.tup ds] => some (.int (ds.length : Nat))
  | [.lst ds] => some (.int (ds.length : Nat))
  | [.scr ns] => some (.int (ns.length : Nat))
  | _ => none
theorem ok_len (hK : X.K = c.K) : BltOk c (fun xs H Q => ∃ x n, xs = [x] ∧ LenV X.K x H n ∧ Q (.int n) H) lenD := by
  intro Hf H σ l ds d vs Q R r e q
  unfold lenD at e
  split at e
  · rename_i y
    split at e
    · rename_i hz
      cases e
      obtain ⟨v, rfl, r1⟩ := rvals1 r
      cases r1
      exact ⟨_, _, rfl, ⟨by rw [← szL_eq]; exact hz, rfl⟩, q.flat R rfl⟩
    · cases e
  · cases e
    obtain ⟨v, rfl, a, vs, rfl, h, t⟩ := rvals1 r
    exact ⟨_, _, rfl, .inr ⟨vs, by rw [hK]; exact sameT R.sub h, rfl⟩, q.flat R (by rw [t.length]; rfl)⟩
  · cases e
    obtain ⟨v, rfl, a, vs, rfl, h, t⟩ := rvals1 r
    exact ⟨_, _, rfl, .inl ⟨vs, SqL.of (R.sub _ _ h), rfl⟩, q.flat R (by rw [t.length]; rfl)⟩
  · cases e
    rename_i ns
    obtain ⟨v, rfl, a, rfl, h⟩ := rvals1 r
    exact ⟨_, _, rfl, .inl ⟨ns.map V.int, by rw [hK]; exact R.sub.seq h, rfl⟩, q.flat R (by rw [List.length_map]; rfl)⟩
  · cases e
def absD : List D → Option D
  | [.int i] => some (.int (if i < 0 then -i else i))
  | _ => none
theorem ok_abs : BltOk c (fun xs H Q => ∃ i, xs = [V.int i] ∧ Q (V.int (if i < 0 then -i else i)) H) absD := by
  intro Hf H σ l ds d vs Q R r e q
  unfold absD at e
  split at e
  · cases e
    obtain ⟨v, rfl, r1⟩ := rvals1 r
    cases r1
    exact ⟨_, rfl, q.flat R rfl⟩
  · cases e
def maxD : List D → Option D
  | [.int i, .int j] => some (.int (if j > i then j else i))
  | _ => none
def minD : List D → Option D
  | [.int i, .int j] => some (.int (if j < i then j else i))
  | _ => none
theorem ok_max : BltOk c (fun xs H Q => ∃ i j, xs = [V.int i, V.int j] ∧ Q (V.int (if j > i then j else i)) H) maxD := by
  intro Hf H σ l ds d vs Q R r e q
  unfold maxD at e
  split at e
  · cases e
    obtain ⟨v, w, rfl, r1, r2⟩ := rvals2 r
    cases r1
    cases r2
    exact ⟨_, _, rfl, q.flat R rfl⟩
  · cases e
theorem ok_min : BltOk c (fun xs H Q => ∃ i j, xs = [V.int i, V.int j] ∧ Q (V.int (if j < i then j else i)) H) minD := by
  intro Hf H σ l ds d vs Q R r e q
  unfold minD at e
  split at e
  · cases e
    obtain ⟨v, w, rfl, r1, r2⟩ := rvals2 r
    cases r1
    cases r2
    exact ⟨_, _, rfl, q.flat R rfl⟩
  · cases e
def intD : List D → Option D
  | [.int i] => some (.int i)
  | [.bl b] => some (.int (if b = true then 1 else 0))
  | _ => none
theorem ok_int : BltOk c (fun xs H Q => (∃ i, xs = [V.int i] ∧ Q (V.int i) H) ∨ ∃ k, xs = [V.bl k] ∧ Q (V.int (if k = true then 1 else 0)) H) intD := by
  intro Hf H σ l ds d vs Q R r e q
  unfold intD at e
  split at e
  · cases e
    obtain ⟨v, rfl, r1⟩ := rvals1 r
    cases r1
    exact .inl ⟨_, rfl, q.flat R rfl⟩
  · cases e
    obtain ⟨v, rfl, r1⟩ := rvals1 r
    cases r1
    exact .inr ⟨_, rfl, q.flat R rfl⟩
  · cases e
def tupD : List D → Option D
  | [.lst ds] => some (.tup ds)
  | [.tup ds] => some (.tup ds)
  | _ => none
theorem ok_tup (hK : X.K = c.K) : BltOk c (fun xs H Q => ∃ p ys, xs = [V.ref p] ∧ ((SqL X.K H p ys ∧ ∀ l, H l = none → Q (V.ref l) (upd H l (.tup ys))) ∨ (SqT X.K H p ys ∧ Q (V.ref p) H))) tupD := by
  intro Hf H σ l ds d vs Q R r e q
  unfold tupD at e
  split at e
  · cases e
    obtain ⟨v, rfl, a, vs, rfl, h, t⟩ := rvals1 r
    exact ⟨a, vs, rfl, .inl ⟨SqL.of (R.sub _ _ h), fun p n => q.new R n (RVal.tupNew (R.free n) t)⟩⟩
  · cases e
    obtain ⟨v, rfl, a, vs, rfl, h, t⟩ := rvals1 r
    exact ⟨a, vs, rfl, .inr ⟨by rw [hK]; exact sameT R.sub h, q.flat R ⟨a, vs, rfl, h, t⟩⟩⟩
  · cases e
def blsD : List D → Option (List Bool)
  | [] => some []
  | .bl b :: r => (blsD r).map (b :: ·)
  | _ => none
theorem blsD_get {cn : Cn} {ad : Ad} {H : Hp} : ∀ {ds : List D} {bs : List Bool} {vs : List V}, blsD ds = some bs → RVals cn ad H ds vs → vs = bs.map V.bl
  | [], bs, vs, h, r => by
    cases h
    cases (show _ = [] from r)
    rfl
  | .bl b :: ds, bs, vs, h, r => by
    have h' : (blsD ds).map (b :: ·) = some bs := h
    rw [Option.map_eq_some_iff] at h'
    obtain ⟨bs', e1, e2⟩ := h'
    subst e2
    obtain ⟨v, r', e, q, t⟩ := r
    subst e
    cases q
    rw [blsD_get e1 t]
    rfl
def allD : List D → Option D
  | [.lst ds] => (blsD ds).map fun bs => .bl (bs.all fun b => b)
  | _ => none
def anyD : List D → Option D
  | [.lst ds] => (blsD ds).map fun bs => .bl (bs.any fun b => b)
  | _ => none
theorem ok_all (hK : X.K = c.K) : BltOk c (rAll X.K) allD := by
  intro Hf H σ l ds d vs Q R r e q
  unfold allD at e
  split at e
  · rw [Option.map_eq_some_iff] at e
    obtain ⟨bs, e1, e2⟩ := e
    subst e2
    obtain ⟨v, rfl, a, vs, rfl, h, t⟩ := rvals1 r
    have := blsD_get e1 t
    subst this
    exact ⟨a, bs, rfl, SqL.of (R.sub _ _ h), q.flat R rfl⟩
  · cases e
theorem ok_any (hK : X.K = c.K) : BltOk c (rAny X.K) anyD := by
  intro Hf H σ l ds d vs Q R r e q
  unfold anyD at e
  split at e
  · rw [Option.map_eq_some_iff] at e
    obtain ⟨bs, e1, e2⟩ := e
    subst e2
    obtain ⟨v, rfl, a, vs, rfl, h, t⟩ := rvals1 r
    have := blsD_get e1 t
    subst this
    exact ⟨a, bs, rfl, SqL.of (R.sub _ _ h), q.flat R rfl⟩
  · cases e
end

/-! ### names of the module -/
section
variable {X : Cx} {c : Ac} {W : WX} {x : Str} {pos : Pos}
theorem de_gint {i : Int} (hg : Gl X x) (hm : ∃ t, X.mg x = some (.int i t)) (hd : (x == ("__debug__" : Str)) = false := by decide) : DE X c W (.Name x pos) (sC (.int i)) := by
  obtain ⟨t, e⟩ := hm
  exact de_flat (pe_glob hg e (v := .int i) ⟨t, rfl⟩ hd) fun _ => rfl
theorem de_gstr {z : Str} (hg : Gl X x) (hm : ∃ t, X.mg x = some (.str z t)) (hd : (x == ("__debug__" : Str)) = false := by decide) : DE X c W (.Name x pos) (sC (.str z)) := by
  obtain ⟨t, e⟩ := hm
  exact de_flat (pe_glob hg e (v := .str z) ⟨t, rfl⟩ hd) fun _ => rfl
theorem de_bty {T : String} (hg : Gl X x) (hm : X.mg x = none) (hv : bootBuiltins x = some (.type T)) (hn : x ≠ "__name__" := by decide) (hd : (x == ("__debug__" : Str)) = false := by decide) : DE X c W (.Name x pos) (sC (.ty T)) :=
  de_flat (pe_bltn hg hm hv (v := .ty T) rfl hn hd) fun _ => rfl
end

/-! ### f-strings -/
def fmtD : D → Option D
  | .str y => if y.length ≤ szL then some (.str y) else none
  | .int i => if i.natAbs.log2 < 1920 then some (.str (toString i)) else none
  | _ => none
def sJoinP : List (LSt → Res D) → Str → LSt → Res D
  | [], acc, l => .ok (.str acc) l
  | f :: fs, acc, l => (f l).bind fun d l => match d with
    | .str y => if (acc ++ y).length ≤ szL then sJoinP fs (acc ++ y) l else .bad
    | _ => .bad
inductive DJ (X : Cx) (c : Ac) (W : WX) : List Expr → List (LSt → Res D) → Prop where
  | nil : DJ X c W [] []
  | cons {e : Expr} {f : LSt → Res D} {es : List Expr} {fs : List (LSt → Res D)} (h : DE X c W e f) (r : DJ X c W es fs) : DJ X c W (e :: es) (f :: fs)
section
variable {X : Cx} {c : Ac} {W : WX} {e : Expr} {pos : Pos} {fe : LSt → Res D}
theorem de_fmt (he : DE X c W e fe) : DE X c W (.FormattedValue e (-1) none pos) (sUn fmtD fe) :=
  ⟨(pe_fmt he.pe).imp' fun _ _ _ ⟨Hf, l, R, h⟩ => run_bind PD.mo R h fun d l1 v H1 Hf1 R1 s1 r1 h1 => by
    cases d with
    | str y =>
      have h1 : wpR (opt (if y.length ≤ szL then some (.str y) else none) l1) (PD c _ _ Hf1) (PX c W _ Hf1) := h1
      split at h1
      · rename_i hz
        exact .inl ⟨y, r1, by rw [← szL_eq]; exact hz, h1 _ H1 Hf1 R1 (Same.refl _) rfl⟩
      · exact h1.elim
    | int i =>
      have h1 : wpR (opt (if i.natAbs.log2 < 1920 then some (.str (toString i)) else none) l1) (PD c _ _ Hf1) (PX c W _ Hf1) := h1
      split at h1
      · rename_i hz
        exact .inr ⟨i, r1, hz, h1 _ H1 Hf1 R1 (Same.refl _) rfl⟩
      · exact h1.elim
    | _ => exact h1.elim⟩
theorem dj_pj {es : List Expr} {fs : List (LSt → Res D)} (h : DJ X c W es fs) : PJ X es (fs.map (tD c W)) := by
  induction h with
  | nil => exact .nil
  | cons h r ih => exact .cons h.pe ih
theorem join_run {Q : VK} {σ : L2.St} : ∀ (fs : List (LSt → Res D)) (acc : Str) (H Hf : Hp) (l : LSt), REnv c Hf σ H l → wpR (sJoinP fs acc l) (PD c σ Q Hf) (PX c W σ Hf) → tJs (fs.map (tD c W)) acc σ H fun out H1 => Q (.str out) H1
  | [], acc, H, Hf, l, R, h => h _ H Hf R (Same.refl _) rfl
  | f :: fs, acc, H, Hf, l, R, h => run_bind PD.mo R h fun d l1 v H1 Hf1 R1 s1 r1 h1 => by
    cases d with
    | str y =>
      have h1 : wpR (if (acc ++ y).length ≤ szL then sJoinP fs (acc ++ y) l1 else .bad) (PD c σ Q Hf1) (PX c W σ Hf1) := h1
      split at h1
      · rename_i hz
        exact ⟨y, r1, by rw [← szL_eq]; exact hz, join_run fs _ H1 Hf1 l1 R1 h1⟩
      · exact h1.elim
    | _ => exact h1.elim
theorem de_joined {v1 v2 : Expr} {rest : List Expr} {fs : List (LSt → Res D)} (h : DJ X c W (v1 :: v2 :: rest) fs) : DE X c W (.JoinedStr (v1 :: v2 :: rest) pos) (sJoinP fs Str.empty) :=
  ⟨(pe_joined (dj_pj h)).imp' fun _ _ _ ⟨Hf, l, R, h⟩ => join_run fs _ _ Hf l R h⟩
theorem de_joined1 (he : DE X c W e fe) : DE X c W (.JoinedStr [e] pos) fe := ⟨pe_joined1 he.pe⟩
end

/-! ### isinstance with a built-in class -/
def kindD : D → Option Nat
  | .int _ => some 0
  | .bl _ => some 1
  | .str _ => some 2
  | .tup _ => some 3
  | .lst _ => some 4
  | .dK _ _ => some 5
  | .dT _ _ => some 5
  | .non => some 6
  | _ => none
def kindN : Nat → String
  | 0 => "int"
  | 1 => "bool"
  | 2 => "str"
  | 3 => "tuple"
  | 4 => "list"
  | 5 => "dict"
  | _ => "NoneType"
def isiB (n t : Nat) : Bool := n == t || (n == 1 && t == 0)
def isiD (t : Nat) (d : D) : Option D := (kindD d).map fun n => .bl (isiB n t)
theorem kit_tab : ∀ n ∈ [0, 1, 2, 3, 4, 5, 6], ∀ t ∈ [0, 1, 2, 3, 4, 5], PySem.W.kitOne [] (.type (kindN n)) (.type (kindN t)) = some (isiB n t) := by decide +kernel
theorem kit_any (K : PySem.W.Frag) (n t : String) : PySem.W.kitOne K (.type n) (.type t) = PySem.W.kitOne [] (.type n) (.type t) := rfl
theorem kind_lt {d : D} {n : Nat} (h : kindD d = some n) : n ∈ [0, 1, 2, 3, 4, 5, 6] := by
  cases d <;> simp only [kindD, reduceCtorEq, Option.some.injEq] at h <;> subst h <;> simp
theorem kind_ty {cn : Cn} {ad : Ad} {Hf H : Hp} {d : D} {v : V} {n : Nat} (h : kindD d = some n) (s : Same Hf H) (r : RVal cn ad Hf d v) : TyX cn.K H v (.type (kindN n)) := by
  cases d <;> simp only [kindD, reduceCtorEq, Option.some.injEq] at h <;> subst h
  · cases r
    exact .base .non
  · cases r
    exact .base (.bl _)
  · cases r
    exact .base (.int _)
  · cases r
    exact .base (.str _)
  · obtain ⟨a, vs, rfl, h, t⟩ := r
    rcases sameT s h with (h | ⟨o, h⟩) | ⟨o, its, m, h1, h2, _⟩
    · exact .base (.tup h)
    · exact .fTuple h
    · exact .kTuple h1 h2
  · obtain ⟨a, vs, rfl, h, t⟩ := r
    exact .base (.lst (s _ _ h))
  · obtain ⟨a, vs, rfl, h, _⟩ := r
    exact .base (.dK (s _ _ h))
  · obtain ⟨a, vs, rfl, h, _⟩ := r
    exact .base (.dT (s _ _ h))
section
variable {X : Cx} {c : Ac} {W : WX} {e : Expr} {fe : LSt → Res D} {p pt pos : Pos} {x y : Str}
theorem de_isi (t : Nat) (ht : t ∈ [0, 1, 2, 3, 4, 5]) (hK : X.K = c.K) (hg : Gl X "isinstance") (hm : X.mg "isinstance" = none) (he : DE X c W e fe) (hgt : Gl X y) (hmt : X.mg y = none) (hv : bootBuiltins y = some (.type (kindN t)))
    (hn : y ≠ "__name__" := by decide) (hd : (y == ("__debug__" : Str)) = false := by decide) (hs : starEach (e :: [.Name y pt]) X.env = (false, eval e X.env) :: starEach [.Name y pt] X.env := by rfl) (hs2 : starEach [.Name y pt] X.env = [(false, eval (.Name y pt) X.env)] := by rfl)
    (hpl : (backTo pos (starEach [.Name y pt] X.env)).any (·.1) = false := by rfl) : DE X c W (.Call (.Name "isinstance" p) [e, .Name y pt] [] pos) (sUn (isiD t) fe) :=
  ⟨(pe_callB call_isi hg hm (by rfl) (pa_cons he.pe (pa_cons (pe_bltn hgt hmt hv (v := .ty (kindN t)) rfl hn hd) pa_nil hs2) hs) (by decide) (by decide) hs hpl).imp' fun _ _ _ ⟨Hf, l, R, h⟩ => run_bind PD.mo R h fun d l1 v H1 Hf1 R1 s1 r1 h1 => by
    have h1 : wpR (opt ((kindD d).map fun n => D.bl (isiB n t)) l1) (PD c _ _ Hf1) (PX c W _ Hf1) := h1
    cases ek : kindD d with
    | none =>
      rw [ek] at h1
      exact h1.elim
    | some n =>
      rw [ek] at h1
      refine ⟨v, .ty (kindN t), .type (kindN n), .type (kindN t), isiB n t, rfl, .ty _, ?_, ?_, h1 _ H1 Hf1 R1 (Same.refl _) rfl⟩
      · rw [hK]
        exact kind_ty ek R1.sub r1
      · rw [kit_any]
        exact kit_tab n (kind_lt ek) t ht⟩
end
end Dx

/-! Dx.Dct: dicts of the frame's own; values of a dict. -/
namespace Dx
open PySem PySem.Spec PyProof.Rows L2

def keyD : D → Option Key
  | .int i => some (.inl i)
  | .str x => some (.inr x)
  | _ => none
theorem keyD_v {cn : Cn} {ad : Ad} {H : Hp} {d : D} {v : V} {k : Key} (e : keyD d = some k) (r : RVal cn ad H d v) : v = kV k := by
  cases d <;> simp only [keyD, reduceCtorEq, Option.some.injEq] at e <;> subst e <;> exact r
def lookD {α : Type} (ks : List Key) (ds : List α) (j : Key) : Option α := match ks, ds with
  | k :: ks, d :: ds => if k = j then some d else lookD ks ds j
  | _, _ => none
def memK : List Key → Key → Bool
  | [], _ => false
  | k :: ks, j => decide (k = j) || memK ks j
def putKs (ks : List Key) (j : Key) : List Key := if memK ks j = true then ks else ks ++ [j]
def replD {α : Type} (ks : List Key) (ds : List α) (j : Key) (x : α) : List α := match ks, ds with
  | k :: ks, d :: ds => (if k = j then x else d) :: replD ks ds j x
  | _, _ => []
def putDs {α : Type} (ks : List Key) (ds : List α) (j : Key) (x : α) : List α := if memK ks j = true then replD ks ds j x else ds ++ [x]
theorem lookD_val : ∀ (ks : List Key) (vs : List V) (j : Key), valV (ks.zip vs) j = lookD ks vs j
  | [], _, _ => by simp [lookD, valV]
  | _ :: _, [], _ => by simp [lookD, valV]
  | k :: ks, v :: vs, j => by
    unfold lookD
    rw [List.zip_cons_cons]
    by_cases e : k = j
    · rw [if_pos e]
      exact valV_pos e
    · rw [if_neg e, valV_neg (by simpa using e)]
      exact lookD_val ks vs j
section
variable {cn : Cn} {ad : Ad} {H : Hp}
theorem lookD_rel : ∀ {ks : List Key} {ds : List D} {vs : List V} {j : Key}, RVals cn ad H ds vs → (match lookD ks ds j with
    | some d => ∃ v, lookD ks vs j = some v ∧ RVal cn ad H d v
    | none => lookD ks vs j = none)
  | [], _, _, _, _ => rfl
  | _ :: _, [], vs, _, r => by
    cases (show _ = [] from r)
    exact rfl
  | k :: ks, d :: ds, vs, j, ⟨v, us, e, r, t⟩ => by
    subst e
    unfold lookD
    by_cases e : k = j
    · rw [if_pos e, if_pos e]
      exact ⟨v, rfl, r⟩
    · rw [if_neg e, if_neg e]
      exact lookD_rel t
theorem replD_rel {d : D} {v : V} (hd : RVal cn ad H d v) : ∀ {ks : List Key} {ds : List D} {vs : List V} {j : Key}, RVals cn ad H ds vs → RVals cn ad H (replD ks ds j d) (replD ks vs j v)
  | [], _, _, _, _ => rfl
  | _ :: _, [], vs, _, r => by
    cases (show _ = [] from r)
    exact rfl
  | k :: ks, e :: ds, vs, j, ⟨w, us, eq, r, t⟩ => by
    subst eq
    unfold replD
    refine .cons ?_ (replD_rel hd t)
    by_cases z : k = j
    · rw [if_pos z, if_pos z]
      exact hd
    · rw [if_neg z, if_neg z]
      exact r
theorem putDs_rel {d : D} {v : V} (hd : RVal cn ad H d v) {ks : List Key} {ds : List D} {vs : List V} {j : Key} (r : RVals cn ad H ds vs) : RVals cn ad H (putDs ks ds j d) (putDs ks vs j v) := by
  unfold putDs
  split
  · exact replD_rel hd r
  · exact r.append (.cons hd .nil)
end
theorem replD_length {α : Type} : ∀ {ks : List Key} {vs : List α} {j : Key} {v : α}, ks.length = vs.length → (replD ks vs j v).length = ks.length
  | [], [], _, _, _ => rfl
  | [], _ :: _, _, _, h => by cases h
  | _ :: _, [], _, _, h => by cases h
  | k :: ks, w :: vs, j, v, h => by
    unfold replD
    rw [List.length_cons, List.length_cons, replD_length (by simpa using h)]
theorem put_length {α : Type} {ks : List Key} {vs : List α} {j : Key} {v : α} (h : ks.length = vs.length) : (putKs ks j).length = (putDs ks vs j v).length := by
  unfold putKs putDs
  split
  · exact (replD_length h).symm
  · simp [h]
theorem any_zip : ∀ (ks : List Key) (vs : List V) (j : Key), ks.length = vs.length → ((ks.zip vs).any fun kv => decide (kv.1 = j)) = memK ks j
  | [], [], _, _ => rfl
  | [], _ :: _, _, h => by cases h
  | _ :: _, [], _, h => by cases h
  | k :: ks, v :: vs, j, h => by
    rw [List.zip_cons_cons, List.any_cons, any_zip ks vs j (by simpa using h)]
    rfl
theorem repl_zip : ∀ (ks : List Key) (vs : List V) (j : Key) (v : V), ((ks.zip vs).map fun kv => if kv.1 = j then (kv.1, v) else kv) = ks.zip (replD ks vs j v)
  | [], vs, _, _ => by simp
  | _ :: _, [], _, _ => by simp [replD]
  | k :: ks, w :: vs, j, v => by
    unfold replD
    rw [List.zip_cons_cons, List.map_cons, List.zip_cons_cons, repl_zip ks vs j v]
    by_cases e : k = j
    · simp [e]
    · simp [e]
theorem putK_zip {ks : List Key} {vs : List V} {j : Key} {v : V} (h : ks.length = vs.length) : putK (ks.zip vs) j v = (putKs ks j).zip (putDs ks vs j v) := by
  unfold putK putKs putDs
  rw [any_zip ks vs j h]
  by_cases e : memK ks j = true
  · rw [if_pos e, if_pos e, if_pos e]
    exact repl_zip ks vs j v
  · rw [if_neg e, if_neg e, if_neg e, List.zip_append h]
    rfl

/-! ### d.get(k, x), d[k] = x, on a dict of the frame's own -/
def sDGet2 (i : Nat) (fk fz : LSt → Res D) : LSt → Res D := fun l => match l.sl[i]? with
  | some (.own (.dK _ _)) => (fk l).bind fun k l => (fz l).bind fun z l => match l.sl[i]? with
    | some (.own (.dK ks ds)) => opt ((keyD k).map fun j => (lookD ks ds j).getD z) l
    | _ => .bad
  | _ => .bad
def zDPut (i : Nat) (fk fe : LSt → Res D) : LSt → Fl := fun l => (fe l).toFl fun d l => (match l.sl[i]? with
  | some (.own _) => (fk l).toFl fun k l => (match l.sl[i]? with
    | some (.own (.dK ks ds)) => (match keyD k with
      | some j => if ks.length < szL then .nx (l.put i (.own (.dK (putKs ks j) (putDs ks ds j d)))) else .bad
      | none => .bad)
    | _ => .bad)
  | _ => .bad)
section
variable {X : Cx} {c : Ac} {W : WX} {x : Str} {np apos cpos pos pos' : Pos} {i : Nat} {ek ez e : Expr} {fk fz fe : LSt → Res D}
theorem de_dget2 (hu : X.A.units + 1 < cLine) (pv : PE X (.Name x np) (tVar i)) (hk : DE X c W ek fk) (hz : DE X c W ez fz) (m : M2 X (.Name x np) "get" apos ek ez cpos) :
    DE X c W (.Call (.Attribute (.Name x np) "get" apos) [ek, ez] [] cpos) (sDGet2 i fk fz) :=
  ⟨(pe_dget2 hu pv hk.pe hz.pe m).imp' fun σ H Q ⟨Hf, l, R, h⟩ => by
    unfold sDGet2 at h
    cases e1 : l.sl[i]? with
    | none =>
      rw [e1] at h
      exact h.elim
    | some s =>
      rw [e1] at h
      cases s with
      | own co =>
        cases co with
        | dK ks0 ds0 =>
          obtain ⟨a, o, ea, ha, rc, _⟩ := R.own e1
          obtain ⟨vs0, rfl, _, _⟩ := rc
          refine ⟨.ref a, ea, a, rfl, .inl ⟨_, .inl ha⟩, run_bind PD.mo R h fun k l1 kv H1 Hf1 R1 s1 r1 h1 => run_bind PD.mo R1 h1 fun z l2 zv H2 Hf2 R2 s2 r2 h2 => ?_⟩
          cases e2 : l2.sl[i]? with
          | none =>
            rw [e2] at h2
            exact h2.elim
          | some s2' =>
            rw [e2] at h2
            cases s2' with
            | own co2 =>
              cases co2 with
              | dK ks ds =>
                have h2 : wpR (opt ((keyD k).map fun j => (lookD ks ds j).getD z) l2) (PD c σ Q Hf2) (PX c W σ Hf2) := h2
                cases e3 : keyD k with
                | none =>
                  rw [e3] at h2
                  exact h2.elim
                | some j =>
                  rw [e3] at h2
                  obtain ⟨a', o', ea', ha', rc', _⟩ := R2.own e2
                  rw [ea] at ea'
                  cases ea'
                  obtain ⟨vs, rfl, hl, rv⟩ := rc'
                  have kz : kv = kV j := keyD_v e3 r1
                  refine ⟨lookD ks vs j, .inl ⟨_, j, .inl ha', kz, (lookD_val ks vs j).symm⟩, ?_⟩
                  have q := lookD_rel (ks := ks) (j := j) rv
                  have h2 : PD c σ Q Hf2 ((lookD ks ds j).getD z) l2 := h2
                  cases e4 : lookD ks ds j with
                  | none =>
                    rw [e4] at q h2
                    rw [show lookD ks vs j = none from q]
                    exact h2 _ H2 Hf2 R2 (Same.refl _) r2
                  | some d =>
                    rw [e4] at q h2
                    obtain ⟨v, q1, q2⟩ := q
                    rw [q1]
                    exact h2 _ H2 Hf2 R2 (Same.refl _) q2
              | _ => exact h2.elim
            | _ => exact h2.elim
        | _ => exact h.elim
      | _ => exact h.elim⟩
theorem ds_dput (hu : X.A.units + 1 < cLine) (pv : PE X (.Name x np) (tVar i)) (hk : DE X c W ek fk) (he : DE X c W e fe) (hs : swapsWith e (some (.Subscript (.Name x np) ek pos')) pos.line X.env = pure false := by rfl) :
    DS X c W (.Assign [.Subscript (.Name x np) ek pos'] e pos) (zDPut i fk fe) :=
  ⟨(ps_dput hu pv hk.pe he.pe hs).imp' fun D σ H ⟨Hf, l, R, h⟩ => to_bind R h fun d l1 v H1 Hf1 R1 s1 r1 h1 => by
    cases e1 : l1.sl[i]? with
    | none =>
      rw [e1] at h1
      exact h1.elim
    | some s =>
      rw [e1] at h1
      cases s with
      | own co =>
        obtain ⟨a, o, ea, ha, rc, _⟩ := R1.own e1
        refine ⟨.ref a, ea, to_bind R1 h1 fun k l2 kv H2 Hf2 R2 s2 r2 h2 => ?_⟩
        cases e2 : l2.sl[i]? with
        | none =>
          rw [e2] at h2
          exact h2.elim
        | some s2' =>
          rw [e2] at h2
          cases s2' with
          | own co2 =>
            cases co2 with
            | dK ks ds =>
              have h2 : wpF c W D Hf2 (match keyD k with
                | some j => if ks.length < szL then .nx (l2.put i (.own (.dK (putKs ks j) (putDs ks ds j d)))) else .bad
                | none => .bad) := h2
              cases e3 : keyD k with
              | none =>
                rw [e3] at h2
                exact h2.elim
              | some j =>
                rw [e3] at h2
                have h2 : wpF c W D Hf2 (if ks.length < szL then .nx (l2.put i (.own (.dK (putKs ks j) (putDs ks ds j d)))) else .bad) := h2
                split at h2
                · rename_i hz
                  obtain ⟨a', o', ea', ha', rc', _⟩ := R2.own e2
                  rw [ea] at ea'
                  cases ea'
                  obtain ⟨vs, rfl, hl, rv⟩ := rc'
                  refine ⟨a, _, rfl, .inl ⟨_, j, ha', keyD_v e3 r2, by rw [← szL_eq, List.length_zip, ← hl, Nat.min_self]; exact hz, rfl⟩, ?_⟩
                  refine h2 σ _ Hf2 (R2.write e2 ea ⟨putDs ks vs j v, by rw [putK_zip hl], put_length hl, putDs_rel (r1.mono s2) rv⟩) (Same.refl _)
                · exact h2.elim
            | _ => exact h2.elim
          | _ => exact h2.elim
      | _ => exact h1.elim⟩
end

/-! ### a, b, c = {}, x, y -/
def zParD (i j k : Nat) (fa : LSt → Res (List D)) : LSt → Fl := fun l => match fa l with
  | .ok [x, y] l => .nx (((l.put i (.own (.dK [] []))).put j (.v x)).put k (.v y))
  | _ => .bad
section
variable {X : Cx} {c : Ac} {W : WX} {i j l : Nat} {x y z : Str} {a b : Expr} {px py pz pt pos pd : Pos} {kt k2 pt2} {fa : LSt → Res (List D)}
theorem ds_parD (hc : X.calm = true) (hN : X.N.Nodup) (hi : X.N[i]? = some x) (hj : X.N[j]? = some y) (hl : X.N[l]? = some z) (hij : i ≠ j) (hil : i ≠ l) (hjl : j ≠ l)
    (hx : X.env.scope.names.lookup x = some .local) (hy : X.env.scope.names.lookup y = some .local) (hz : X.env.scope.names.lookup z = some .local)
    (ha : ∀ c' : Ac, c'.toCn = c.toCn → DA X c' W0 [a, b] fa)
    (hw : swappedStores [.Tuple [.Name x px, .Name y py, .Name z pz] kt pt] (.Tuple [.Dict [] [] pd, a, b] k2 pt2) X.env = pure (some [x, y, z]))
    (hs : swapsWithSole [.Tuple [.Name x px, .Name y py, .Name z pz] kt pt] (.Tuple [.Dict [] [] pd, a, b] k2 pt2) pos.line X.env = pure false := by rfl)
    (hst : starEach (.Dict [] [] pd :: [a, b]) X.env = (false, eval (.Dict [] [] pd) X.env) :: starEach [a, b] X.env := by rfl) :
    DS X c W (.Assign [.Tuple [.Name x px, .Name y py, .Name z pz] kt pt] (.Tuple [.Dict [] [] pd, a, b] k2 pt2) pos) (zParD i j l fa) := by
  have pa : PA X [a, b] (fun σ H Q => ∃ c' : Ac, c'.toCn = c.toCn ∧ tA c' W0 fa σ H Q) := ⟨fun ps pins s σ H Q I ⟨c', h1, h2⟩ => (ha c' h1).pa.run ps pins s σ H Q I h2⟩
  refine ⟨(ps_par3 hc hN hi hj hl hij hil hjl hx hy hz (pa_cons pe_dnewK pa hst) hw hs).imp' fun D σ H ⟨Hf, ls, R, h⟩ => fun p hp => ?_⟩
  have R0 := R.hid (o := .dK []) hp
  have c0 : c.hid p = none := by
    cases e0 : c.hid p with
    | none => rfl
    | some u =>
      have := (R.frame p u e0).1
      rw [hp] at this
      cases this
  have fr : ∀ (j : Nat) (s : Slot), ls.sl[j]? = some s → isOwn s = true → σ[j]? ≠ some (some (.ref p)) := fun j s hj ho e => by
    cases s with
    | own co' =>
      obtain ⟨a', o', e', ha', _⟩ := R.own hj
      rw [e'] at e
      cases e
      rw [hp] at ha'
      cases ha'
    | _ => cases ho
  have R1 := R0.mind upd_same (R.free hp) (R.dice.new hp) fr
  refine ⟨c.more p (.dK []), rfl, Hf, ls, R1, ?_⟩
  have h : wpF c W D Hf (match fa ls with
    | .ok [x, y] l' => .nx (((l'.put i (.own (.dK [] []))).put j (.v x)).put l (.v y))
    | _ => .bad) := h
  cases e : fa ls with
  | bad =>
    rw [e] at h
    exact h.elim
  | ex q l1 =>
    rw [e] at h
    exact h.elim
  | ok ds l1 =>
    rw [e] at h
    intro vs H' Hf' R' s' r
    obtain ⟨R2, h1, nf, nd, fr2⟩ := R'.unmind c0
    match ds, r, h with
    | [d1, d2], r, h =>
      obtain ⟨v1, v2, rfl, q1, q2⟩ := rvals2 r
      exact ⟨.ref p, v1, v2, rfl, h _ H' Hf' (((R2.storeO (co := .dK [] []) h1 ⟨[], rfl, rfl, rfl⟩ nf c0 nd (fun j s hj ho => fr2 j s hj ho)).store q1).store q2) s'⟩
    | [], _, h => exact h.elim
    | [_], _, h => exact h.elim
    | _ :: _ :: _ :: _, _, h => exact h.elim
end

/-! ### list(d.values()) -/
theorem kv_vals {kvs : List (Key × V)} {vs : List (Key × Value)} (r : KV kvs vs) : Vals (kvs.map (·.2)) (vs.map (·.2)) := by
  unfold KV at r
  induction r with
  | nil => exact .nil
  | cons h t ih => exact .cons h.2 ih
def rVals : V → List V → Hp → VK → Prop := fun x xs H Q => ∃ (a : Addr) (kvs : List (Key × V)), x = .ref a ∧ xs = [] ∧ H a = some (.dK kvs) ∧ ∀ p, H p = none → Q (.ref p) (upd H p (viewO "dict_values" p a))
section
variable {X : Cx}
theorem mt_vals : MtR X "dict.values" rVals := by
  intro pins s σ H x xs v us Q I rx rxs h
  obtain ⟨a, kvs, rfl, rfl, ha, q⟩ := h
  cases rx
  cases rxs
  obtain ⟨z, hd, vs, rk, dd⟩ := dk_of I.hok ha
  have hf : H s.heap.objs.size = none := I.hok.fresh (Nat.le_refl _)
  exact call_meetsIn PySem.F.slot_dict_values dd.typeIs PySem.F.entry_dict_values (PySem.F.args_dict_values_1 _) (meets_dict_values (mixKind X.prog X.w) a hd) ⟨⟨vs, dd⟩,
    .ref s.heap.objs.size, upd H s.heap.objs.size (viewO "dict_values" s.heap.objs.size a), I.laid (t' := s.toks) (fun b u e => Heap.get?_push_of_some _ e) (Nat.le_refl _) (viewO_ok (Heap.get?_push_size _ rfl)), rfl, q _ hf⟩
def rListV : List V → Hp → VK → Prop := fun xs H Q => ∃ p a kvs, xs = [.ref p] ∧ H p = some (viewO "dict_values" p a) ∧ H a = some (.dK kvs) ∧ ∀ q, H q = none → Q (.ref q) (upd H q (.lst (kvs.map (·.2))))
theorem call_list_view (hc : X.calm = true) : CallR X (.type "list") rListV := by
  intro pins s σ H xs us Q I r h
  obtain ⟨p, a, kvs, e, hp, hk, q⟩ := h
  subst e
  obtain ⟨u, eu, rx⟩ := vals1 r
  subst eu
  obtain rfl : u = Value.ref p := rx
  obtain ⟨z, lo, vs, rk, hd⟩ := (show ObjOk X.prog X.w H s.heap a (.dK kvs) from I.hok a _ hk)
  have hv := (show ObjOk X.prog X.w H s.heap p (viewO "dict_values" p a) from I.hok p _ hp).1
  obtain ⟨ep, hat⟩ := hd.dictAt
  have hl : kvs.length = vs.length := Paired.length rk
  refine PySem.W.kdl_call (PySem.W.kdl_values (knd := mixKind X.prog X.w) (r := p) (d := a) (kvs := vs) (ep := ep)) (I.ok.hd hc) ⟨⟨_, hv, rfl, rfl⟩, hat⟩ (by rw [← hl]; exact z) fun h' tk acc' c' hkeep hS hacc => ?_
  have el : acc'.toList = vs.map (·.2) := by
    have hn : acc'.toList.length = vs.length := by rw [Array.length_toList, hacc.1]
    apply List.ext_getElem?
    intro j
    rw [List.getElem?_map]
    cases hj : acc'.toList[j]? with
    | none =>
      have h1 := List.getElem?_eq_none_iff.mp hj
      rw [List.getElem?_eq_none (by omega)]
      rfl
    | some v =>
      obtain ⟨k, hk2⟩ := hacc.2 j v (by rw [← Array.getElem?_toList]; exact hj)
      rw [hk2]
      rfl
  refine ⟨.ref s.heap.objs.size, upd H s.heap.objs.size (.lst (kvs.map (·.2))), I.laid hkeep (Nat.le_refl _) (show ObjOk X.prog X.w _ _ _ (.lst (kvs.map (·.2))) from ⟨?_, acc'.toList, c', ?_, ?_⟩), rfl, q _ (I.hok.fresh (Nat.le_refl _))⟩
  · rw [List.length_map]
    exact z
  · rw [el]
    exact kv_vals rk
  · rw [Array.toArray_toList]
    exact hS
end
def valsD : D → Option D
  | .dK _ ds => some (.lst ds)
  | _ => none
section
variable {X : Cx} {c : Ac} {W : WX} {e : Expr} {fe : LSt → Res D} {p apos cpos pos : Pos}
theorem de_listVals (hc : X.calm = true) (hK : X.K = c.K) (hg : Gl X "list") (hm : X.mg "list" = none) (he : DE X c W e fe) (hb : attributeBase e "values" X.env (eval e X.env) = eval e X.env := by rfl) (hline : (apos.endLine == cpos.line) = true := by rfl)
    (hst : starEach (.Call (.Attribute e "values" apos) [] [] cpos :: []) X.env = (false, eval (.Call (.Attribute e "values" apos) [] [] cpos) X.env) :: starEach [] X.env := by rfl) :
    DE X c W (.Call (.Name "list" p) [.Call (.Attribute e "values" apos) [] [] cpos] [] pos) (sUn valsD fe) :=
  ⟨(pe_callTy (call_list_view hc) hg hm (by rfl) (pa_cons (pe_bm0 F.plainAttrs_dict F.slot_dict_values F.type_dict_values mt_vals he.pe hb hline) pa_nil hst) (by decide) (by decide) hst).imp' fun σ H Q ⟨Hf, l, R, h⟩ => run_bind PD.mo R h fun d l1 v H1 Hf1 R1 s1 r1 h1 => by
    cases d with
    | dK ks ds =>
      obtain ⟨a, vs, rfl, ha, hl, rv⟩ := r1
      have ha1 := R1.sub _ _ ha
      refine ⟨.inr (.inr (.inl ⟨rfl, .inl ⟨_, ha1⟩⟩)), a, _, rfl, rfl, ha1, fun p hp => ?_⟩
      refine ⟨p, a, _, rfl, upd_same, by rw [upd_ne (ne_of_none ha1 hp)]; exact ha1, fun q hq => ?_⟩
      have h1 : PD c σ Q Hf1 (.lst ds) l1 := h1
      have ez : (ks.zip vs).map (·.2) = vs := by
        rw [show (fun x : Key × V => x.2) = Prod.snd from rfl, List.map_snd_zip (by omega)]
      rw [ez]
      exact h1.new (R1.hid hp) hq (RVal.lstNew ((R1.hid hp).free hq) rv)
    | _ => exact h1.elim⟩
end
end Dx

/-! Dx.Dice: the dice read, written, lent; a comprehension stored. -/
namespace Dx
open PySem PySem.Spec PyProof.Rows L2

def nth3 : Nat → Int × Int × Int → Int
  | 0, t => t.1
  | 1, t => t.2.1
  | _, t => t.2.2
def set3 : Nat → Int × Int × Int → Int → Int × Int × Int
  | 0, t, v => (v, t.2.1, t.2.2)
  | 1, t, v => (t.1, v, t.2.2)
  | _, t, v => (t.1, t.2.1, v)
def l3 (t : Int × Int × Int) : List V := [.int t.1, .int t.2.1, .int t.2.2]
theorem l3_get (t : Int × Int × Int) {k : Nat} (h : k < 3) : atI (l3 t) (k : Int) = some (.int (nth3 k t)) := by
  match k, h with
  | 0, _ => rfl
  | 1, _ => rfl
  | 2, _ => rfl
theorem l3_set (t : Int × Int × Int) (v : Int) {k : Nat} (h : k < 3) : (l3 t).set k (.int v) = l3 (set3 k t v) := by
  match k, h with
  | 0, _ => rfl
  | 1, _ => rfl
  | 2, _ => rfl
def sDie (i k : Nat) : LSt → Res D := fun l => match l.sl[i]? with
  | some (.v .dice) => (match l.g.d with
    | some t => .ok (.int (nth3 k t)) l
    | none => .bad)
  | _ => .bad
def LSt.withD (l : LSt) (t : Option (Int × Int × Int)) : LSt := { l with g := { l.g with d := t } }
def zDie (i k : Nat) (fe : LSt → Res D) : LSt → Fl := fun l => (fe l).toFl fun d l => match d with
  | .int v => (match l.sl[i]? with
    | some (.v .dice) => (match l.g.d with
      | some t => .nx (l.withD (some (set3 k t v)))
      | none => .bad)
    | _ => .bad)
  | _ => .bad
theorem REnv.setd {c : Ac} {Hf H : Hp} {σ : L2.St} {l : LSt} (R : REnv c Hf σ H l) {t : Int × Int × Int} (t' : Int × Int × Int) (h : l.g.d = some t) : REnv c Hf σ (upd H c.ad.d (.lst (l3 t'))) (l.withD (some t')) := by
  have hs : l.g.sh.1 = true := by
    show l.g.d.isSome = true
    rw [h]
    rfl
  have hne : ∀ {a : Addr}, ¬ isD l.g c.ad a → a ≠ c.ad.d := fun {a} nd z => nd (.inl ⟨hs, z⟩)
  have sh : (l.withD (some t')).g.sh = l.g.sh := by
    show (true, l.g.ob.isSome) = (l.g.d.isSome, l.g.ob.isSome)
    rw [h]
    rfl
  have isd : ∀ a, isD (l.withD (some t')).g c.ad a ↔ isD l.g c.ad a := fun a => isD_iff sh
  obtain ⟨d1, d2⟩ := R.dice.dc t.1 t.2.1 t.2.2 h
  refine ⟨R.len, fun j s hj => ?_, R.dis, fun b u hb => ?_, R.base, fun b u hb => ?_, ⟨fun x y z q => ?_, fun k fs q => ?_⟩, sh.trans R.hgs⟩
  · obtain ⟨x, e, q⟩ := R.slot j s hj
    refine ⟨x, e, ?_⟩
    cases s with
    | un => exact True.intro
    | slf => exact q
    | v d => exact q
    | own co' =>
      obtain ⟨a', o', qa, ha', r', n', n0', nd'⟩ := q
      exact ⟨a', o', qa, by rw [upd_ne (hne nd')]; exact ha', r', n', n0', fun z => nd' ((isd a').mp z)⟩
  · have e1 : b ≠ c.ad.d := fun z => by
      rw [z, d1] at hb
      cases hb
    rw [upd_ne e1]
    exact R.sub b u hb
  · obtain ⟨f1, f2, f3⟩ := R.frame b u hb
    exact ⟨by rw [upd_ne (hne f3)]; exact f1, f2, fun z => f3 ((isd b).mp z)⟩
  · cases q
    exact ⟨d1, upd_same⟩
  · obtain ⟨q1, q2, q3, q4, us, q5, q6⟩ := R.dice.obj k fs q
    have e1 : c.ad.oa ≠ c.ad.d := fun w => by
      rcases q5 with ⟨h, _⟩ | ⟨h, _⟩
      · rw [w, d2] at h
        cases h
      · rw [w, d2] at h
        unfold SlX.SlO at h
        cases h
    have e2 : c.ad.od ≠ c.ad.d := fun w => by
      rcases q4 with h | h
      · rw [w, d2] at h
        cases h
      · rw [w, d2] at h
        cases h
    refine ⟨q1, q2, q3, by rw [upd_ne e2]; exact q4, us, ?_, q6⟩
    rcases q5 with ⟨h, e⟩ | ⟨h, e⟩
    · exact .inl ⟨by rw [upd_ne e1]; exact h, e⟩
    · exact .inr ⟨by rw [upd_ne e1]; exact h, by rw [upd_ne e2]; exact e⟩
section
variable {X : Cx} {c : Ac} {W : WX} {x : Str} {np p pos pos' : Pos} {i k j0 : Nat} {e : Expr} {fe : LSt → Res D}
theorem die_run {σ : L2.St} {H : Hp} {Q : VK} (hk : k < 3) (hK : X.K = c.K) (h : tD c W (sDie i k) σ H Q) : tOp (rIxL X.K) (tVar i) (tC (.int (k : Int))) σ H Q := by
  obtain ⟨Hf, l, R, h⟩ := h
  unfold sDie at h
  cases e1 : l.sl[i]? with
  | none =>
    rw [e1] at h
    exact h.elim
  | some s =>
    rw [e1] at h
    cases s with
    | v d =>
      cases d with
      | dice =>
        have h : wpR (match l.g.d with
          | some t => .ok (.int (nth3 k t)) l
          | none => .bad) (PD c σ Q Hf) (PX c W σ Hf) := h
        cases e2 : l.g.d with
        | none =>
          rw [e2] at h
          exact h.elim
        | some t =>
          rw [e2] at h
          obtain ⟨v, ev, rv⟩ := R.val e1
          obtain rfl : v = .ref c.ad.d := rv
          refine ⟨_, ev, c.ad.d, l3 t, (k : Int), .int (nth3 k t), rfl, rfl, ?_, l3_get t hk, h _ H Hf R (Same.refl _) rfl⟩
          exact SqL.of (R.dice.dc t.1 t.2.1 t.2.2 e2).2
      | _ => exact h.elim
    | _ => exact h.elim
theorem de_die (hk : k < 3) (hK : X.K = c.K) (pv : PE X (.Name x np) (tVar i)) (hs : PlainIx (.Constant (.int (k : Int)) j0 p)) : DE X c W (.Subscript (.Name x np) (.Constant (.int (k : Int)) j0 p) pos) (sDie i k) :=
  ⟨(pe_ix ix_list pv pe_int hs).imp' fun _ _ _ h => die_run hk hK h⟩
theorem ds_die (hk : k < 3) (hK : X.K = c.K) (pv : PE X (.Name x np) (tVar i)) (he : DE X c W e fe)
    (ha : ∀ v, assign (.Subscript (.Name x np) (.Constant (.int (k : Int)) j0 p) pos') X.env v = (do
      let ov ← holding [v] (eval (.Name x np) X.env)
      let iv ← holding [v, ov] (eval (.Constant (.int (k : Int)) j0 p) X.env)
      standAt pos'
      holding [v, ov, iv] (setItem ov iv v)
      release [v, ov, iv] []) := by intros; rfl)
    (hs : swapsWithSole [.Subscript (.Name x np) (.Constant (.int (k : Int)) j0 p) pos'] e pos.line X.env = pure false := by rfl) (hw : swappedStores [.Subscript (.Name x np) (.Constant (.int (k : Int)) j0 p) pos'] e X.env = pure none := by rfl)
    (h1 : (assignEach [.Subscript (.Name x np) (.Constant (.int (k : Int)) j0 p) pos'] X.env).map (·.2) = [assign (.Subscript (.Name x np) (.Constant (.int (k : Int)) j0 p) pos') X.env] := by rfl) :
    DS X c W (.Assign [.Subscript (.Name x np) (.Constant (.int (k : Int)) j0 p) pos'] e pos) (zDie i k fe) :=
  ⟨(ps_asg he.pe (pg_sub pv pe_int set_list) hs hw h1).imp' fun D σ H ⟨Hf, l, R, h⟩ => to_bind R h fun d l1 v H1 Hf1 R1 s1 r1 h1 => by
    cases d with
    | int n =>
      have h1 : wpF c W D Hf1 (match l1.sl[i]? with
        | some (.v .dice) => (match l1.g.d with
          | some t => .nx (l1.withD (some (set3 k t n)))
          | none => .bad)
        | _ => .bad) := h1
      cases e1 : l1.sl[i]? with
      | none =>
        rw [e1] at h1
        exact h1.elim
      | some s =>
        rw [e1] at h1
        cases s with
        | v d =>
          cases d with
          | dice =>
            have h1 : wpF c W D Hf1 (match l1.g.d with
              | some t => .nx (l1.withD (some (set3 k t n)))
              | none => .bad) := h1
            cases e2 : l1.g.d with
            | none =>
              rw [e2] at h1
              exact h1.elim
            | some t =>
              rw [e2] at h1
              obtain ⟨w, ev, rv⟩ := R1.val e1
              obtain rfl : w = .ref c.ad.d := rv
              obtain rfl : v = .int n := r1
              have hd := (R1.dice.dc t.1 t.2.1 t.2.2 e2).2
              refine ⟨_, ev, c.ad.d, l3 t, (k : Int), k, rfl, rfl, hd, ?_, ?_⟩
              · unfold ixN
                rw [if_pos (by omega), if_pos (by show (k : Int) < ((3 : Nat) : Int); omega)]
                rfl
              · rw [l3_set t n hk]
                exact h1 σ _ Hf1 (R1.setd (set3 k t n) e2) (Same.refl _)
          | _ => exact h1.elim
        | _ => exact h1.elim
    | _ => exact h1.elim⟩
end

/-! ### the dice are lent -/
mutual
def D.nod : D → Bool
  | .dice => false
  | .tup ds => D.nods ds
  | .lst ds => D.nods ds
  | .dK _ ds => D.nods ds
  | .dT _ ds => D.nods ds
  | .ins _ ds => D.nods ds
  | .non => true
  | .bl _ => true
  | .int _ => true
  | .str _ => true
  | .scr _ => true
  | .ty _ => true
  | .glo _ => true
def D.nods : List D → Bool
  | [] => true
  | d :: ds => D.nod d && D.nods ds
end
mutual
theorem RVal.ndc {cn : Cn} {ad ad' : Ad} {H : Hp} : ∀ (d : D) (v : V), d.nod = true → RVal cn ad H d v → RVal cn ad' H d v
  | .non, _, _, q => q
  | .bl _, _, _, q => q
  | .int _, _, _, q => q
  | .str _, _, _, q => q
  | .tup ds, _, h, ⟨a, vs, q, h1, r⟩ => ⟨a, vs, q, h1, RVals.ndc ds vs (by simpa [D.nod] using h) r⟩
  | .lst ds, _, h, ⟨a, vs, q, h1, r⟩ => ⟨a, vs, q, h1, RVals.ndc ds vs (by simpa [D.nod] using h) r⟩
  | .scr _, _, _, q => q
  | .dK ks ds, _, h, ⟨a, vs, q, h1, l, r⟩ => ⟨a, vs, q, h1, l, RVals.ndc ds vs (by simpa [D.nod] using h) r⟩
  | .dT ks ds, _, h, ⟨a, vs, q, h1, l, r⟩ => ⟨a, vs, q, h1, l, RVals.ndc ds vs (by simpa [D.nod] using h) r⟩
  | .ins n fs, _, h, ⟨a, dx, vs, q, h1, h2, r⟩ => ⟨a, dx, vs, q, h1, h2, RVals.ndc fs vs (by simpa [D.nod] using h) r⟩
  | .ty _, _, _, q => q
  | .glo _, _, _, q => q
  | .dice, _, h, _ => by simp [D.nod] at h
theorem RVals.ndc {cn : Cn} {ad ad' : Ad} {H : Hp} : ∀ (ds : List D) (vs : List V), D.nods ds = true → RVals cn ad H ds vs → RVals cn ad' H ds vs
  | [], _, _, q => q
  | d :: ds, _, h, ⟨v, r, q, h1, t⟩ => ⟨v, r, q, RVal.ndc d v (by simp [D.nods] at h; exact h.1) h1, RVals.ndc ds r (by simp [D.nods] at h; exact h.2) t⟩
end
def lendRes (i : Nat) (l : LSt) : FR → Res D
  | .ok e g => match g.d with
    | some (x, y, z) => if e.d.nod = true then .ok e.d ⟨l.sl.set i (.own (.lst [.int x, .int y, .int z])), { g with d := none }⟩ else .bad
    | none => .bad
  | _ => .bad
def dice3 : Slot → Option (Int × Int × Int)
  | .own (.lst [.int x, .int y, .int z]) => some (x, y, z)
  | _ => none
theorem dice3_eq {s : Slot} {x y z : Int} (h : dice3 s = some (x, y, z)) : s = .own (.lst [.int x, .int y, .int z]) := by
  unfold dice3 at h
  split at h
  · cases h
    rfl
  · cases h
def sLend (i : Nat) (m : Fm) (a : LSt → Res (List D)) : LSt → Res D := fun l => match l.sl[i]? with
  | some (.own _) => (a l).bind fun ds l => (match (l.sl[i]?).bind dice3, l.g.d, l.g.ob with
    | some (x, y, z), none, none => if D.nods ds = true then lendRes i l (m (.dice :: ds) ⟨some (x, y, z), none⟩) else .bad
    | _, _, _ => .bad)
  | _ => .bad
theorem REnv.lent {c : Ac} {Hf H Hf' H' : Hp} {σ : L2.St} {l : LSt} {i : Nat} {co : CO} {a : Addr} {t : Int × Int × Int} {x y z : Int} {g' : G} (R : REnv c Hf σ H l) (hi : l.sl[i]? = some (.own co)) (hd : l.g.d = none) (ho : l.g.ob = none) (ea : σ[i]? = some (some (.ref a)))
    (A : Aft c.toCn { c.ad with d := a } ⟨some t, none⟩ g' H Hf H' Hf') (e : g'.d = some (x, y, z)) : REnv c Hf' σ H' ⟨l.sl.set i (.own (.lst [.int x, .int y, .int z])), { g' with d := none }⟩ := by
  obtain ⟨a0, o0, e0, ha0, _, n0, h0, nd0⟩ := R.own hi
  rw [ea] at e0
  cases e0
  have hil : i < l.sl.length := (List.getElem?_eq_some_iff.mp hi).1
  have sh2 : g'.ob.isSome = l.g.ob.isSome := by
    rw [ho]
    exact congrArg Prod.snd A.hgs
  have sh : ({ g' with d := none } : G).sh = l.g.sh := by
    show (false, g'.ob.isSome) = (l.g.d.isSome, l.g.ob.isSome)
    rw [hd, sh2]
    rfl
  have isd : ∀ b, isD ({ g' with d := none } : G) c.ad b ↔ isD l.g c.ad b := fun b => isD_iff sh
  have isd1 : ∀ {b}, ¬ isD l.g c.ad b → b ≠ a → ¬ isD (⟨some t, none⟩ : G) { c.ad with d := a } b := fun {b} h ne q => by
    rcases q with ⟨_, q⟩ | ⟨q, _⟩
    · exact ne q
    · cases q
  obtain ⟨d1, d2⟩ := A.dice.dc x y z e
  refine ⟨by rw [List.length_set]; exact R.len, fun j s hj => ?_, fun j k s t b hj hk os ot ej ek => ?_, A.sub, R.base.trans A.grow, fun b u hb => ?_, ⟨fun x y z q => (nomatch q), fun k fs q => ?_⟩, sh.trans R.hgs⟩
  · have hj' : (l.sl.set i (.own (.lst [.int x, .int y, .int z])))[j]? = some s := hj
    by_cases hji : j = i
    · subst hji
      rw [List.getElem?_set_self hil] at hj'
      cases hj'
      exact ⟨_, ea, a, _, rfl, d2, ⟨_, rfl, .cons rfl (.cons rfl (.cons rfl .nil))⟩, d1, h0, fun q => nd0 ((isd a).mp q)⟩
    · rw [List.getElem?_set_ne (Ne.symm hji)] at hj'
      obtain ⟨x', e', q⟩ := R.slot j s hj'
      refine ⟨x', e', ?_⟩
      cases s with
      | un => exact True.intro
      | slf => exact q
      | v d =>
        obtain ⟨v, qv, rv⟩ := q
        exact ⟨v, qv, rv.mono A.grow⟩
      | own co' =>
        obtain ⟨a', o', qa, ha', r', n', n0', nd'⟩ := q
        have ne : a' ≠ a := fun w => hji (R.dis j i _ _ a hj' hi rfl rfl (by rw [e', qa, w]) ea)
        obtain ⟨e1, e2⟩ := A.frame a' o' ha' n' (isd1 nd' ne)
        exact ⟨a', o', qa, e1, r'.mono A.grow, e2, n0', fun w => nd' ((isd a').mp w)⟩
  · have back : ∀ {m : Nat} {u : Slot}, (l.sl.set i (.own (.lst [.int x, .int y, .int z])))[m]? = some u → isOwn u = true → ∃ u', l.sl[m]? = some u' ∧ isOwn u' = true := fun {m u} hm ou => by
      by_cases w : m = i
      · subst w
        exact ⟨_, hi, rfl⟩
      · rw [List.getElem?_set_ne (Ne.symm w)] at hm
        exact ⟨u, hm, ou⟩
    obtain ⟨s', hs', os'⟩ := back hj os
    obtain ⟨t', ht', ot'⟩ := back hk ot
    exact R.dis j k s' t' b hs' ht' os' ot' ej ek
  · obtain ⟨e1, e2, e3⟩ := R.frame b u hb
    have ne : b ≠ a := fun w => by
      rw [w, h0] at hb
      cases hb
    obtain ⟨e4, e5⟩ := A.frame b u e1 e2 (isd1 e3 ne)
    exact ⟨e4, e5, fun w => e3 ((isd b).mp w)⟩
  · exfalso
    have q' : g'.ob = some (k, fs) := q
    rw [q', ho] at sh2
    cases sh2
section
variable {X : Cx} {c : Ac} {W : WX} {x xd : Str} {p pd pos : Pos} {i k : Nat} {es : List Expr} {fs : LSt → Res (List D)} {m : Fm} {f : Addr}
theorem lend_run {σ : L2.St} {H : Hp} {Q : VK} (h : tD c W (sLend i m fs) σ H Q) : tCons (tVar i) (tA c W fs) σ H fun vs H1 => spF c.toCn m vs H1 Q (WE W σ) := by
  obtain ⟨Hf, l, R, h⟩ := h
  unfold sLend at h
  cases e1 : l.sl[i]? with
  | none =>
    rw [e1] at h
    exact h.elim
  | some s =>
    rw [e1] at h
    cases s with
    | own co0 =>
      obtain ⟨a, o0, ea, _⟩ := R.own e1
      refine ⟨.ref a, ea, run_bindA PD.mo R h fun ds l1 vs H1 Hf1 R1 s1 r1 h1 => ?_⟩
      cases e2' : (l1.sl[i]?).bind dice3 with
      | none =>
        rw [e2'] at h1
        exact h1.elim
      | some t0 =>
        obtain ⟨x, y, z⟩ := t0
        rw [e2'] at h1
        rw [Option.bind_eq_some_iff] at e2'
        obtain ⟨s2, e2, e2'⟩ := e2'
        rw [dice3_eq e2'] at e2
        cases e3 : l1.g.d with
        | some _ =>
          rw [e3] at h1
          exact h1.elim
        | none =>
          cases e4 : l1.g.ob with
          | some _ =>
            rw [e3, e4] at h1
            exact h1.elim
          | none =>
            rw [e3, e4] at h1
            have h1 : wpR (if D.nods ds = true then lendRes i l1 (m (.dice :: ds) ⟨some (x, y, z), none⟩) else .bad) (PD c σ Q Hf1) (PX c W σ Hf1) := h1
            split at h1
            · rename_i hn
              obtain ⟨a', o', ea', ha', rc, nf, n0, nd⟩ := R1.own e2
              rw [ea] at ea'
              cases ea'
              obtain ⟨us, rfl, ru⟩ := rc
              obtain ⟨u1, r1', q1, k1, u2, r2', q2, k2, u3, r3', q3, k3, q4⟩ := ru
              subst q1 q2 q3
              cases (show _ = [] from q4)
              cases k1
              cases k2
              cases k3
              refine ⟨Hf1, { c.ad with d := a }, .dice :: ds, ⟨some (x, y, z), none⟩, R1.sub, ⟨fun x' y' z' q => by cases q; exact ⟨nf, ha'⟩, fun k fs q => (nomatch q)⟩, .cons rfl (RVals.ndc _ _ hn r1), ?_⟩
              cases em : m (.dice :: ds) ⟨some (x, y, z), none⟩ with
              | bad =>
                rw [em] at h1
                exact h1
              | ex q g =>
                rw [em] at h1
                exact h1.elim
              | ok ev g =>
                rw [em] at h1
                have h1 : wpR (match g.d with
                  | some (x, y, z) => if ev.d.nod = true then .ok ev.d ⟨l1.sl.set i (.own (.lst [.int x, .int y, .int z])), { g with d := none }⟩ else .bad
                  | none => .bad) (PD c σ Q Hf1) (PX c W σ Hf1) := h1
                cases eg : g.d with
                | none =>
                  rw [eg] at h1
                  exact h1.elim
                | some t =>
                  obtain ⟨x', y', z'⟩ := t
                  rw [eg] at h1
                  have h1 : wpR (if ev.d.nod = true then .ok ev.d ⟨l1.sl.set i (.own (.lst [.int x', .int y', .int z'])), { g with d := none }⟩ else .bad) (PD c σ Q Hf1) (PX c W σ Hf1) := h1
                  split at h1
                  · rename_i hnd
                    intro v H' Hf' A rv
                    have R2 := R1.lent e2 e3 e4 ea A eg
                    cases ev with
                    | v d => exact h1 v H' Hf' R2 A.grow (RVal.ndc _ _ hnd rv)
                    | o co =>
                      obtain ⟨b, ob, rfl, hb, rc, nb, nH, ndb⟩ := rv
                      have rcb : RVal c.toCn c.ad (upd Hf' b ob) co.d (.ref b) := RVal.ndc _ _ hnd (rc.val nb)
                      have hb0 : c.hid b = none := by
                        cases e0 : c.hid b with
                        | none => rfl
                        | some u =>
                          have := (R1.frame b u e0).1
                          rw [nH] at this
                          cases this
                      have ndc : ¬ isD ({ g with d := none } : G) c.ad b := fun q => by
                        rcases q with ⟨q, _⟩ | q
                        · cases q
                        · exact ndb (.inr q)
                      refine h1 _ H' _ (R2.see hb nb hb0 ndc ?_) (A.grow.trans (same_upd nb)) rcb
                      intro j s hj ho e'
                      have back : ∃ u', l1.sl[j]? = some u' ∧ isOwn u' = true := by
                        by_cases w : j = i
                        · subst w
                          exact ⟨_, e2, rfl⟩
                        · rw [show (⟨l1.sl.set i (.own (.lst [.int x', .int y', .int z'])), { g with d := none }⟩ : LSt).sl = l1.sl.set i (.own (.lst [.int x', .int y', .int z'])) from rfl, List.getElem?_set_ne (Ne.symm w)] at hj
                          exact ⟨s, hj, ho⟩
                      obtain ⟨u', hu, ou⟩ := back
                      cases u' with
                      | own co' =>
                        obtain ⟨a', o', e2', ha'', _⟩ := R1.own hu
                        rw [e2'] at e'
                        cases e'
                        rw [nH] at ha''
                        cases ha''
                      | _ => cases ou
                  · exact h1.elim
            · exact h1.elim
    | _ => exact h.elim
theorem de_lend (F : FnR X.prog X.w X.K X.mg X.base (L2.CX X.prog X.w) k f (spF c.toCn m)) (hr : Room k X.A) (tk : Takes X W) (hg : Gl X x) (hm : X.mg x = some (.ref f)) (hk : PySem.W.keepIn X.K (.ref f) = true)
    (pv : PE X (.Name xd pd) (tVar i)) (ha : DA X c W es fs) (hdb : (x == ("__debug__" : Str)) = false := by decide) (he : starEach (.Name xd pd :: es) X.env = (false, eval (.Name xd pd) X.env) :: starEach es X.env := by rfl) (hpl : (backTo pos (starEach es X.env)).any (·.1) = false := by rfl) :
    DE X c W (.Call (.Name x p) (.Name xd pd :: es) [] pos) (sLend i m fs) :=
  ⟨(pe_callR F hr (fun σ => passAt tk σ) hg hm hk (pa_cons pv ha.pa he) hdb he hpl).imp' fun σ H Q h => lend_run h⟩
end

/-! ### y = [..] -/
section
variable {X : Cx} {c : Ac} {W : WX} {elt tg iter : Expr} {ifs : List Expr} {scope : Scope} {own : List (Str × Nat)} {pos spos py : Pos} {f : LSt → Res (List D)} {t : Tgt} {tt : LSt → Res Bool} {fe : LSt → Res D} {ws : List Nat} {i : Nat} {y : Str}
theorem ds_setLc (hc : X.calm = true) (hN : X.N.Nodup) (hy : X.N[i]? = some y) (hyl : X.env.scope.names.lookup y = some .local)
    (hsw : swapsWith (.ListComp elt [⟨tg, iter, ifs, 0⟩] scope pos) (some (.Name y py)) spos.line X.env = pure true) (hi : DI X c W tg iter f) (ok : BlkOk X.N X.env.scope scope own) (hws : ∀ j ∈ ws, j ∈ own.map (·.2))
    (hg : ∀ (s : Shared) (H : Hp) (C : Addr) (cl : List (Str × Addr)) (fp : List Addr), DG (X.blk s H scope (compEnvC scope cl C X.env) fp) c tg t ws)
    (ht : ∀ (s : Shared) (H : Hp) (C : Addr) (cl : List (Str × Addr)) (fp : List Addr) (c' : Ac), c'.toCn = c.toCn → DTs (X.blk s H scope (compEnvC scope cl C X.env) fp) c' W0 ifs tt)
    (he : ∀ (s : Shared) (H : Hp) (C : Addr) (cl : List (Str × Addr)) (fp : List Addr) (c' : Ac), c'.toCn = c.toCn → DE (X.blk s H scope (compEnvC scope cl C X.env) fp) c' W0 elt fe) (hs : ∀ x, foldedSetIterable iter X.env x = pure x := by intro _; rfl) :
    DS X c W (.Assign [.Name y py] (.ListComp elt [⟨tg, iter, ifs, 0⟩] scope pos) spos) (zSetO i (sComp f t tt fe (own.map (·.2)))) := by
  exact ⟨(ps_setLc (g := gD c t ws) (tt := fun σ H Q => ∃ c' : Ac, c'.toCn = c.toCn ∧ tB c' W0 tt σ H Q) (te := fun σ H Q => ∃ c' : Ac, c'.toCn = c.toCn ∧ tD c' W0 fe σ H Q) hc hN hy hyl hsw hi.pi ok (fun s H C cl fp => (hg s H C cl fp).can)
    (fun s H C cl fp => ⟨fun pins s1 σ H1 Q I ⟨c', h1, h2⟩ => (ht s H C cl fp c' h1).pts.run pins s1 σ H1 Q I h2⟩)
    (fun s H C cl fp => ⟨fun pins s1 σ H1 Q I ⟨c', h1, h2⟩ => (he s H C cl fp c' h1).pe.run pins s1 σ H1 Q I h2⟩) hs).imp' fun D σ H ⟨Hf, l, R, hh⟩ =>
      lc_run hws (fun v σ H Q c' Hf l l' d h1 h2 h3 h4 h5 => ⟨c', Hf, l, l', d, h1, h2, h3, h4, h5⟩) (fun c' σ H Q e h => ⟨c', e, h⟩) (fun c' σ H Q e h => ⟨c', e, h⟩)
        (to_bindO R hh fun co l1 h1 => fun a o H' Hf' R' s' ha r n n0 nd fr => h1 _ H' Hf' (R'.storeO ha r n n0 nd fr) s')⟩
end
end Dx

/-! Dx.Gen: the rules, with what they ask of the surroundings put into one word. -/
namespace Dx
open PySem PySem.Spec PyProof.Rows L2

structure Ctx (X : Cx) (c : Ac) (W : WX) (cn : Cn) (k : Nat) : Prop where
  hK : X.K = c.K
  hc : c.toCn = cn
  hr : Room k X.A
  tk : Takes X W
  calm : X.calm = true
  nd : X.N.Nodup
  pass : PassesOwn (model X.prog X.w) X.A X.env X.xe
theorem Ctx.blk {X : Cx} {c c' : Ac} {W : WX} {cn : Cn} {k : Nat} (Z : Ctx X c W cn k) (e : c'.toCn = c.toCn) (s : Shared) (H : Hp) (scope : Scope) (env : Env) (fp : List Addr) : Ctx (X.blk s H scope env fp) c' W0 cn k :=
  ⟨Z.hK.trans (congrArg Cn.K e).symm, e.trans Z.hc, Z.hr, takes0, Z.calm, Z.nd, PassesOwn.never⟩
theorem Ctx.to {X : Cx} {c c' : Ac} {W : WX} {cn : Cn} {k : Nat} (Z : Ctx X c W cn k) (e : c'.toCn = c.toCn) (tk : Takes X W0) : Ctx X c' W0 cn k :=
  ⟨Z.hK.trans (congrArg Cn.K e).symm, e.trans Z.hc, Z.hr, tk, Z.calm, Z.nd, Z.pass⟩
/-- a def, called by its name -/
structure Cal (P : Program) (w : World) (K : PySem.W.Frag) (mg : Str → Option Value) (base : Heap) (cn : Cn) (k : Nat) (x : Str) (m : Fm) : Prop where
  ex : ∃ f, FnR P w K mg base (L2.CX P w) k f (spF cn m) ∧ mg x = some (.ref f) ∧ PySem.W.keepIn K (.ref f) = true
/-- a class, called by its name -/
structure Mkr (P : Program) (w : World) (K : PySem.W.Frag) (mg : Str → Option Value) (base : Heap) (cn : Cn) (k : Nat) (x : Str) (n : Nat) (m : Fm) : Prop where
  ex : ∃ f, Mk K (cn.cA n) f ∧ FnR P w K mg base (L2.CX P w) k f (spI cn n m) ∧ mg x = some (.ref (cn.cA n))
section
variable {X : Cx} {c : Ac} {W : WX} {cn : Cn} {k j : Nat} {a b e : Expr} {es : List Expr} {pos p np apos : Pos} {fa fb fe : LSt → Res D} {fs : LSt → Res (List D)} {x y : Str}
theorem e_var (i : Nat) (hN : X.N[i]? = some x := by rfl) (hv : Vis X.env.scope x := by first | exact Or.inl rfl | exact Or.inr (Or.inl rfl) | exact Or.inr (Or.inr rfl)) (hd : (x == ("__debug__" : Str)) = false := by decide)
    (hcd : (x == ("__classdict__" : Str)) = false := by decide) : DE X c W (.Name x pos) (sVar i) := de_var (pe_var hN hv hd hcd)
theorem e_add (Z : Ctx X c W cn k) (ha : DE X c W a fa) (hb : DE X c W b fb) : DE X c W (.BinOp a .Add b pos) (sBin addD fa fb) := de_op op_addA (Z.hK ▸ ok_add ⟨_, rfl⟩) ha hb
theorem e_mul (Z : Ctx X c W cn k) (ha : DE X c W a fa) (hb : DE X c W b fb) : DE X c W (.BinOp a .Mult b pos) (sBin mulD fa fb) := de_op op_mulA (Z.hK ▸ ok_mul) ha hb
theorem e_sub (ha : DE X c W a fa) (hb : DE X c W b fb) : DE X c W (.BinOp a .Sub b pos) (sBin subD fa fb) := de_op op_sub ok_sub ha hb
theorem e_div (ha : DE X c W a fa) (hb : DE X c W b fb) : DE X c W (.BinOp a .FloorDiv b pos) (sBin divD fa fb) := de_op op_divA ok_div ha hb
theorem e_mod (ha : DE X c W a fa) (hb : DE X c W b fb) : DE X c W (.BinOp a .Mod b pos) (sBin modD fa fb) := de_op op_modN ok_mod ha hb
theorem e_pow (ha : DE X c W a fa) (hb : DE X c W b fb) : DE X c W (.BinOp a .Pow b pos) (sBin powD fa fb) := de_op op_pow ok_pow ha hb
theorem e_neg (ha : DE X c W a fa) : DE X c W (.UnaryOp .USub a pos) (sUn negD fa) := de_un un_neg ok_neg ha
theorem e_eq (Z : Ctx X c W cn k) (ha : DE X c W a fa) (hb : DE X c W b fb) : DE X c W (.Compare a [.Eq] [b] pos) (sBin eqD fa fb) := de_cmp (op_eqD Z.hr.units) (Z.hK ▸ ok_eq) ha hb (nomark _)
theorem e_ne (Z : Ctx X c W cn k) (ha : DE X c W a fa) (hb : DE X c W b fb) : DE X c W (.Compare a [.NotEq] [b] pos) (sBin neD fa fb) := de_cmp (op_neD Z.hr.units) (Z.hK ▸ ok_ne) ha hb (nomark _)
theorem e_lt (ha : DE X c W a fa) (hb : DE X c W b fb) : DE X c W (.Compare a [.Lt] [b] pos) (sBin ltD fa fb) := de_cmp op_lt ok_cmpI ha hb (nomark _)
theorem e_le (ha : DE X c W a fa) (hb : DE X c W b fb) : DE X c W (.Compare a [.LtE] [b] pos) (sBin leD fa fb) := de_cmp op_le ok_cmpI ha hb (nomark _)
theorem e_gt (ha : DE X c W a fa) (hb : DE X c W b fb) : DE X c W (.Compare a [.Gt] [b] pos) (sBin gtD fa fb) := de_cmp op_gt ok_cmpI ha hb (nomark _)
theorem e_ge (ha : DE X c W a fa) (hb : DE X c W b fb) : DE X c W (.Compare a [.GtE] [b] pos) (sBin geD fa fb) := de_cmp op_ge ok_cmpI ha hb (nomark _)
theorem e_isN (ha : DE X c W a fa) (hb : DE X c W b fb) : DE X c W (.Compare a [.Is] [b] pos) (sBin isND fa fb) := de_cmp op_isN ok_isN ha hb (nomark _)
theorem t_eq (Z : Ctx X c W cn k) (ha : DE X c W a fa) (hb : DE X c W b fb) : DT X c W (.Compare a [.Eq] [b] pos) (sTst (sBin eqD fa fb)) := dt_cmp (op_eqD Z.hr.units) (Z.hK ▸ ok_eq) ha hb (nomark _)
theorem t_ne (Z : Ctx X c W cn k) (ha : DE X c W a fa) (hb : DE X c W b fb) : DT X c W (.Compare a [.NotEq] [b] pos) (sTst (sBin neD fa fb)) := dt_cmp (op_neD Z.hr.units) (Z.hK ▸ ok_ne) ha hb (nomark _)
theorem t_lt (ha : DE X c W a fa) (hb : DE X c W b fb) : DT X c W (.Compare a [.Lt] [b] pos) (sTst (sBin ltD fa fb)) := dt_cmp op_lt ok_cmpI ha hb (nomark _)
theorem t_le (ha : DE X c W a fa) (hb : DE X c W b fb) : DT X c W (.Compare a [.LtE] [b] pos) (sTst (sBin leD fa fb)) := dt_cmp op_le ok_cmpI ha hb (nomark _)
theorem t_gt (ha : DE X c W a fa) (hb : DE X c W b fb) : DT X c W (.Compare a [.Gt] [b] pos) (sTst (sBin gtD fa fb)) := dt_cmp op_gt ok_cmpI ha hb (nomark _)
theorem t_ge (ha : DE X c W a fa) (hb : DE X c W b fb) : DT X c W (.Compare a [.GtE] [b] pos) (sTst (sBin geD fa fb)) := dt_cmp op_ge ok_cmpI ha hb (nomark _)
theorem t_isN (ha : DE X c W a fa) (hb : DE X c W b fb) : DT X c W (.Compare a [.Is] [b] pos) (sTst (sBin isND fa fb)) := dt_cmp op_isN ok_isN ha hb (nomark _)
theorem t_tru (Z : Ctx X c W cn k) (ha : DE X c W a fa) (he : ∀ whole, isTrue a X.env whole = (do let v ← whole; standAt a.pos; holding [v] (truthy v)) := by intro _; rfl) : DT X c W a (sTru fa) := dt_tru Z.hK ha he
theorem e_ix (Z : Ctx X c W cn k) (ha : DE X c W a fa) (hb : DE X c W b fb) (hs : PlainIx b := by intro _ _; rfl) : DE X c W (.Subscript a b pos) (sBin ixD fa fb) := de_ix Z.hK ha hb hs
section
variable {hgt : Unit}
theorem e_len (Z : Ctx X c W cn k) (hm : X.mg "len" = none) (ha : DE X c W a fa) (hg : Gl X "len" := by rfl) (he : starEach [a] X.env = (false, eval a X.env) :: starEach [] X.env := by rfl) : DE X c W (.Call (.Name "len" p) [a] [] pos) (sBlt lenD (sCons fa sNil)) :=
  de_blt call_len (ok_len Z.hK) hg hm (by rfl) (da_cons ha da_nil he) (by decide) (by decide) he
theorem e_abs (hm : X.mg "abs" = none) (ha : DE X c W a fa) (hg : Gl X "abs" := by rfl) (he : starEach [a] X.env = (false, eval a X.env) :: starEach [] X.env := by rfl) : DE X c W (.Call (.Name "abs" p) [a] [] pos) (sBlt absD (sCons fa sNil)) :=
  de_blt call_abs ok_abs hg hm (by rfl) (da_cons ha da_nil he) (by decide) (by decide) he
theorem e_int (hm : X.mg "int" = none) (ha : DE X c W a fa) (hg : Gl X "int" := by rfl) (he : starEach [a] X.env = (false, eval a X.env) :: starEach [] X.env := by rfl) : DE X c W (.Call (.Name "int" p) [a] [] pos) (sBlt intD (sCons fa sNil)) :=
  de_bltT call_int1 ok_int hg hm (by rfl) (da_cons ha da_nil he) (by decide) (by decide) he
theorem e_tuple (Z : Ctx X c W cn k) (hm : X.mg "tuple" = none) (ha : DE X c W a fa) (hg : Gl X "tuple" := by rfl) (he : starEach [a] X.env = (false, eval a X.env) :: starEach [] X.env := by rfl) : DE X c W (.Call (.Name "tuple" p) [a] [] pos) (sBlt tupD (sCons fa sNil)) :=
  de_bltT call_tuple_of (ok_tup Z.hK) hg hm (by rfl) (da_cons ha da_nil he) (by decide) (by decide) he
theorem e_all (Z : Ctx X c W cn k) (hm : X.mg "all" = none) (ha : DE X c W a fa) (hg : Gl X "all" := by rfl) (he : starEach [a] X.env = (false, eval a X.env) :: starEach [] X.env := by rfl) : DE X c W (.Call (.Name "all" p) [a] [] pos) (sBlt allD (sCons fa sNil)) :=
  de_blt (cr_all Z.calm) (ok_all Z.hK) hg hm (by rfl) (da_cons ha da_nil he) (by decide) (by decide) he
theorem e_max (Z : Ctx X c W cn k) (hm : X.mg "max" = none) (ha : DE X c W a fa) (hb : DE X c W b fb) (hg : Gl X "max" := by rfl) (he : starEach [a, b] X.env = (false, eval a X.env) :: starEach [b] X.env := by rfl) (he2 : starEach [b] X.env = (false, eval b X.env) :: starEach [] X.env := by rfl)
    (hpl : (backTo pos (starEach [b] X.env)).any (·.1) = false := by rfl) : DE X c W (.Call (.Name "max" p) [a, b] [] pos) (sBlt maxD (sCons fa (sCons fb sNil))) :=
  de_blt (call_max2 Z.calm) ok_max hg hm (by rfl) (da_cons ha (da_cons hb da_nil he2) he) (by decide) (by decide) he hpl
theorem e_min (Z : Ctx X c W cn k) (hm : X.mg "min" = none) (ha : DE X c W a fa) (hb : DE X c W b fb) (hg : Gl X "min" := by rfl) (he : starEach [a, b] X.env = (false, eval a X.env) :: starEach [b] X.env := by rfl) (he2 : starEach [b] X.env = (false, eval b X.env) :: starEach [] X.env := by rfl)
    (hpl : (backTo pos (starEach [b] X.env)).any (·.1) = false := by rfl) : DE X c W (.Call (.Name "min" p) [a, b] [] pos) (sBlt minD (sCons fa (sCons fb sNil))) :=
  de_blt (call_min2 Z.calm) ok_min hg hm (by rfl) (da_cons ha (da_cons hb da_nil he2) he) (by decide) (by decide) he hpl
end
variable {m : Fm} {n : Nat}
theorem e_call (Z : Ctx X c W cn k) (C : Cal X.prog X.w X.K X.mg X.base cn j x m) (hj : j ≤ k) (ha : DA X c W (e :: es) fs) (hg : Gl X x := by rfl) (hdb : (x == ("__debug__" : Str)) = false := by decide)
    (he : starEach (e :: es) X.env = (false, eval e X.env) :: starEach es X.env := by rfl) (hpl : (backTo pos (starEach es X.env)).any (·.1) = false := by rfl) : DE X c W (.Call (.Name x p) (e :: es) [] pos) (sCall m fs) := by
  obtain ⟨f, F, h1, h2⟩ := C.ex
  rw [← Z.hc] at F
  exact de_callR (F.mono hj) Z.hr Z.tk hg h1 h2 ha hdb he hpl
theorem o_call (Z : Ctx X c W cn k) (C : Cal X.prog X.w X.K X.mg X.base cn j x m) (hj : j ≤ k) (ha : DA X c W (e :: es) fs) (hg : Gl X x := by rfl) (hdb : (x == ("__debug__" : Str)) = false := by decide)
    (he : starEach (e :: es) X.env = (false, eval e X.env) :: starEach es X.env := by rfl) (hpl : (backTo pos (starEach es X.env)).any (·.1) = false := by rfl) : DO X c W (.Call (.Name x p) (e :: es) [] pos) (sCallO m fs) := by
  obtain ⟨f, F, h1, h2⟩ := C.ex
  rw [← Z.hc] at F
  exact do_callR (F.mono hj) Z.hr Z.tk hg h1 h2 ha hdb he hpl
theorem e_call0 (Z : Ctx X c W cn k) (C : Cal X.prog X.w X.K X.mg X.base cn j x m) (hj : j ≤ k) (hg : Gl X x := by rfl) (hdb : (x == ("__debug__" : Str)) = false := by decide) : DE X c W (.Call (.Name x p) [] [] pos) (sCall m sNil) := by
  obtain ⟨f, F, h1, h2⟩ := C.ex
  rw [← Z.hc] at F
  exact de_callR0 (F.mono hj) Z.hr Z.tk hg h1 h2 hdb
theorem e_lend (Z : Ctx X c W cn k) (C : Cal X.prog X.w X.K X.mg X.base cn j x m) (hj : j ≤ k) (i : Nat) {xd : Str} {pd : Pos} (ha : DA X c W es fs) (pv : PE X (.Name xd pd) (tVar i)) (hg : Gl X x := by rfl) (hdb : (x == ("__debug__" : Str)) = false := by decide)
    (he : starEach (.Name xd pd :: es) X.env = (false, eval (.Name xd pd) X.env) :: starEach es X.env := by rfl) (hpl : (backTo pos (starEach es X.env)).any (·.1) = false := by rfl) : DE X c W (.Call (.Name x p) (.Name xd pd :: es) [] pos) (sLend i m fs) := by
  obtain ⟨f, F, h1, h2⟩ := C.ex
  rw [← Z.hc] at F
  exact de_lend (F.mono hj) Z.hr Z.tk hg h1 h2 pv ha hdb he hpl
theorem e_make (Z : Ctx X c W cn k) (C : Mkr X.prog X.w X.K X.mg X.base cn j x n m) (hj : j + 1 ≤ k) (ha : DA X c W (e :: es) fs) (hg : Gl X x := by rfl) (hdb : (x == ("__debug__" : Str)) = false := by decide)
    (he : starEach (e :: es) X.env = (false, eval e X.env) :: starEach es X.env := by rfl) (hpl : (backTo pos (starEach es X.env)).any (·.1) = false := by rfl) : DE X c W (.Call (.Name x p) (e :: es) [] pos) (sCall (mkC n m) fs) := by
  obtain ⟨f, M, F, h1⟩ := C.ex
  rw [← Z.hc] at F M h1
  exact de_make M F (Z.hr.mono hj) Z.tk hg h1 ha hdb he hpl
end
end Dx

/-! Dx.Gen2: statements, in short words. -/
namespace Dx
open PySem PySem.Spec PyProof.Rows L2

def i2 (f : Int → Int → Int) : D → D → Option D
  | .int i, .int j => some (.int (f i j))
  | _, _ => none
theorem ok_i2 {c : Ac} {f : Int → Int → Int} : BinOk c (ipI f) (i2 f) := by
  intro Hf H σ l d1 d2 d x y Q R r1 r2 e q
  cases d1 <;> cases d2 <;> simp only [i2, reduceCtorEq] at e
  cases e
  exact ⟨_, _, r1, r2, q.flat R rfl⟩
theorem ip_divA {X : Cx} : PIp X .FloorDiv (rI CDivA fun i j => .int (i.fdiv j)) := by
  intro pins s σ H x y v u Q I r1 r2 h
  obtain ⟨i, j, e1, e2, hc, q⟩ := h
  subst e1; subst e2
  obtain ⟨t, rfl⟩ := r1
  obtain ⟨t', rfl⟩ := r2
  exact ifloordiv_int hc.1 ⟨.int _, H, I.tok _, ⟨_, rfl⟩, q⟩ (.inl (PyProof.noPylong_of_log2 hc.2))
theorem ip_mulA {X : Cx} : PIp X .Mult (rI IntMulOk fun i j => .int (i * j)) := by
  intro pins s σ H x y v u Q I r1 r2 h
  obtain ⟨i, j, e1, e2, hc, q⟩ := h
  subst e1; subst e2
  obtain ⟨t, rfl⟩ := r1
  obtain ⟨t', rfl⟩ := r2
  exact imul_int ⟨.int _, H, I.tok _, ⟨_, rfl⟩, q⟩ hc
def mulI : D → D → Option D
  | .int i, .int j => mulD (.int i) (.int j)
  | _, _ => none
theorem ok_mulI {c : Ac} : BinOk c (rI IntMulOk fun i j => .int (i * j)) mulI := by
  intro Hf H σ l d1 d2 d x y Q R r1 r2 e q
  cases d1 <;> cases d2 <;> simp only [mulI, mulD, reduceCtorEq] at e
  split at e
  · rename_i hz
    cases e
    exact ⟨_, _, r1, r2, mulOk_of hz, q.flat R rfl⟩
  · cases e
section
variable {X : Cx} {c : Ac} {W : WX} {cn : Cn} {k : Nat} {e a b : Expr} {pos p : Pos} {x y z : Str} {fe : LSt → Res D}
theorem s_aadd (i : Nat) (Z : Ctx X c W cn k) (he : DE X c W e fe) (hi : X.N[i]? = some x := by rfl) (hx : Loc X.env.scope x := by first | exact Or.inl rfl | exact Or.inr rfl)
    (hf : X.fn x = true ∨ X.env.scope.names.lookup x = some .local := by first | exact .inl rfl | exact .inr rfl) : DS X c W (.AugAssign (.Name x p) .Add e pos) (zAug i (i2 fun i j => i + j) fe) := ds_aug Z.nd hi hx he ip_add ok_i2 hf
theorem s_asub (i : Nat) (Z : Ctx X c W cn k) (he : DE X c W e fe) (hi : X.N[i]? = some x := by rfl) (hx : Loc X.env.scope x := by first | exact Or.inl rfl | exact Or.inr rfl)
    (hf : X.fn x = true ∨ X.env.scope.names.lookup x = some .local := by first | exact .inl rfl | exact .inr rfl) : DS X c W (.AugAssign (.Name x p) .Sub e pos) (zAug i (i2 fun i j => i - j) fe) := ds_aug Z.nd hi hx he ip_sub ok_i2 hf
theorem s_adiv (i : Nat) (Z : Ctx X c W cn k) (he : DE X c W e fe) (hi : X.N[i]? = some x := by rfl) (hx : Loc X.env.scope x := by first | exact Or.inl rfl | exact Or.inr rfl)
    (hf : X.fn x = true ∨ X.env.scope.names.lookup x = some .local := by first | exact .inl rfl | exact .inr rfl) : DS X c W (.AugAssign (.Name x p) .FloorDiv e pos) (zAug i divD fe) := ds_aug Z.nd hi hx he ip_divA ok_div hf
theorem s_amul (i : Nat) (Z : Ctx X c W cn k) (he : DE X c W e fe) (hi : X.N[i]? = some x := by rfl) (hx : Loc X.env.scope x := by first | exact Or.inl rfl | exact Or.inr rfl)
    (hf : X.fn x = true ∨ X.env.scope.names.lookup x = some .local := by first | exact .inl rfl | exact .inr rfl) : DS X c W (.AugAssign (.Name x p) .Mult e pos) (zAug i mulI fe) := ds_aug Z.nd hi hx he ip_mulA ok_mulI hf
theorem g_name (i : Nat) (Z : Ctx X c W cn k) (hi : X.N[i]? = some x := by rfl) (hx : Loc X.env.scope x := by first | exact Or.inl rfl | exact Or.inr rfl)
    (hf : X.fn x = true ∨ X.env.scope.names.lookup x = some .local := by first | exact .inl rfl | exact .inr rfl) : PG X (.Name x pos) (gName i) := pg_name Z.nd hi hx hf
theorem ds_par3 {i j l : Nat} {u v w : Expr} {px py pz pt : Pos} {kt k2 pt2} {fa : LSt → Res (List D)} (Z : Ctx X c W cn k) (hi : X.N[i]? = some x) (hj : X.N[j]? = some y) (hl : X.N[l]? = some z) (hij : i ≠ j) (hil : i ≠ l) (hjl : j ≠ l)
    (hx : X.env.scope.names.lookup x = some .local) (hy : X.env.scope.names.lookup y = some .local) (hz : X.env.scope.names.lookup z = some .local) (ha : DA X c W [u, v, w] fa)
    (hw : swappedStores [.Tuple [.Name x px, .Name y py, .Name z pz] kt pt] (.Tuple [u, v, w] k2 pt2) X.env = pure (some [x, y, z]))
    (hs : swapsWithSole [.Tuple [.Name x px, .Name y py, .Name z pz] kt pt] (.Tuple [u, v, w] k2 pt2) pos.line X.env = pure false := by rfl) :
    DS X c W (.Assign [.Tuple [.Name x px, .Name y py, .Name z pz] kt pt] (.Tuple [u, v, w] k2 pt2) pos) (zPar3 i j l fa) :=
  ⟨(ps_par3 Z.calm Z.nd hi hj hl hij hil hjl hx hy hz ha.pa hw hs).imp' fun D σ H ⟨Hf, l0, R, hh⟩ => to_bindA R hh fun ds l1 vs H1 Hf1 R1 s1 r1 h1 => by
    match ds, r1, h1 with
    | [d1, d2, d3], ⟨v1, r, e, q1, v2, r', e', q2, v3, r'', e'', q3, e4⟩, h1 =>
      subst e e' e''
      cases (show _ = [] from e4)
      exact ⟨v1, v2, v3, rfl, h1 _ H1 Hf1 (((R1.store q1).store q2).store q3) (Same.refl _)⟩
    | [], _, h1 => exact h1.elim
    | [_], _, h1 => exact h1.elim
    | [_, _], _, h1 => exact h1.elim
    | _ :: _ :: _ :: _ :: _, _, h1 => exact h1.elim⟩
theorem r_list (Z : Ctx X c W cn k) {tg : Expr} (he : DE X c W e fe) : DI X c W tg e (sItems fe) := di_list Z.hK he
end
theorem Ctx.at_ {X : Cx} {c : Ac} {W : WX} {cn : Cn} {k : Nat} {f : Str} {tb : Nat → Option Nat} (Z : Ctx X c W cn k) (h : AttrOk cn f tb) : AttrOk c.toCn f tb := by
  rw [Z.hc]
  exact h
section
variable {X : Cx} {c : Ac} {W : WX} {cn : Cn} {k j : Nat} {e o : Expr} {es : List Expr} {pos p apos : Pos} {mn fn : Str} {fo : LSt → Res D} {fs : LSt → Res (List D)} {x : Str}
theorem g_nm (i : Nat) (nd : X.N.Nodup) (hi : X.N[i]? = some x := by rfl) (hx : Loc X.env.scope x := by first | exact Or.inl rfl | exact Or.inr rfl)
    (hf : X.fn x = true ∨ X.env.scope.names.lookup x = some .local := by first | exact .inl rfl | exact .inr rfl) : PG X (.Name x pos) (gName i) := pg_name nd hi hx hf
theorem e_attr {tb : Nat → Option Nat} (Z : Ctx X c W cn k) (ok : AttrOk cn fn tb) (he : DE X c W e fo) (hb : attributeBase e fn X.env (eval e X.env) = eval e X.env := by rfl) : DE X c W (.Attribute e fn pos) (sAttr tb fo) := de_attr Z.hK (Z.at_ ok) he hb
theorem e_self {tb : Nat → Option Nat} {i : Nat} {np : Pos} (Z : Ctx X c W cn k) (ok : AttrOk cn fn tb) (p : PE X (.Name x np) (tVar i)) (hb : attributeBase (.Name x np) fn X.env (eval (.Name x np) X.env) = eval (.Name x np) X.env := by rfl) : DE X c W (.Attribute (.Name x np) fn pos) (sSelf i tb) := de_self Z.hK (Z.at_ ok) p hb
theorem s_self {tb : Nat → Option Nat} {i : Nat} {np pos' : Pos} {fe : LSt → Res D} (Z : Ctx X c W cn k) (ok : AttrOk cn fn tb) (p : PE X (.Name x np) (tVar i)) (he : DE X c W e fe) (hs : swapsWith e (some (.Attribute (.Name x np) fn pos')) pos.line X.env = pure false := by rfl) :
    DS X c W (.Assign [.Attribute (.Name x np) fn pos'] e pos) (zSelf i tb fe) := ds_self Z.hK (Z.at_ ok) p he hs
theorem MthOk.up {P : Program} {w : World} {mg : Str → Option Value} {base : Heap} {tb : Nat → Option Fm} (h : MthOk P w mg base cn j mn tb) (hj : j ≤ k) : MthOk P w mg base cn k mn tb :=
  ⟨fun n m e => let ⟨a, g, b, F⟩ := h.ok n m e; ⟨a, g, b, F.mono hj⟩⟩
theorem PrpOk.up {P : Program} {w : World} {mg : Str → Option Value} {base : Heap} {tb : Nat → Option Fm} (h : PrpOk P w mg base cn j mn tb) (hj : j ≤ k) : PrpOk P w mg base cn k mn tb :=
  ⟨fun n m e => let ⟨a, p, g, b1, b2, b3, b4, F⟩ := h.ok n m e; ⟨a, p, g, b1, b2, b3, b4, F.mono hj⟩⟩
theorem e_mth {tb : Nat → Option Fm} {pl : Sem Bool} (Z : Ctx X c W cn k) (ok : MthOk X.prog X.w X.mg X.base cn j mn tb) (hj : j ≤ k) (ho : DE X c W o fo) (ha : DA X c W (e :: es) fs)
    (hst : starEach (e :: es) X.env = (false, eval e X.env) :: starEach es X.env := by rfl) (hpl : (backTo pos (starEach es X.env)).any (·.1) = false := by rfl)
    (ht : eval (.Call (.Attribute o mn apos) (e :: es) [] pos) X.env = (do
      let ov ← eval o X.env
      standAt apos.atName
      let (f, first) ← holding [ov] (getMethod ov mn pl)
      callWith pos f first (backTo pos (starEach (e :: es) X.env)) (backToKw pos (keywordEach [] X.env))) := by rfl) : DE X c W (.Call (.Attribute o mn apos) (e :: es) [] pos) (sMth tb fo fs) := by
  have ok2 := ok.up hj
  rw [← Z.hc] at ok2
  exact de_mth Z.hK ok2 Z.hr Z.tk ho ha hst hpl ht
theorem e_mth0 {tb : Nat → Option Fm} {pl : Sem Bool} (Z : Ctx X c W cn k) (ok : MthOk X.prog X.w X.mg X.base cn j mn tb) (hj : j ≤ k) (ho : DE X c W o fo)
    (ht : eval (.Call (.Attribute o mn apos) [] [] pos) X.env = (do
      let ov ← eval o X.env
      standAt apos.atName
      let (f, first) ← holding [ov] (getMethod ov mn pl)
      callWith pos f first (backTo pos (starEach [] X.env)) (backToKw pos (keywordEach [] X.env))) := by rfl) : DE X c W (.Call (.Attribute o mn apos) [] [] pos) (sMth tb fo sNil) := by
  have ok2 := ok.up hj
  rw [← Z.hc] at ok2
  exact de_mth0 Z.hK ok2 Z.hr Z.tk ho ht
theorem e_prp {tb : Nat → Option Fm} (Z : Ctx X c W cn k) (ok : PrpOk X.prog X.w X.mg X.base cn j fn tb) (hj : j + 1 ≤ k) (he : DE X c W e fo) (hb : attributeBase e fn X.env (eval e X.env) = eval e X.env := by rfl) : DE X c W (.Attribute e fn pos) (sPrp tb fo) := by
  rw [← Z.hc] at ok
  exact de_prp Z.hK ok (Z.hr.mono hj) he hb
end
/-- a def's table of one class -/
def tb1 {α : Type} (n : Nat) (x : α) : Nat → Option α := fun m => if m = n then some x else none
theorem fl0 {cn : Cn} : FlatD cn [] [] := fun _ _ => rfl
section
variable {P : Program} {w : World} {K : PySem.W.Frag} {mg : Str → Option Value} {base : Heap} {cn : Cn} {x qual : Str} {params : Arguments} {body : List Stmt} {scope : Scope} {f : Addr} {fd : FuncData} {N ps : List Str} {k : Nat} {fb : LSt → Fl}
/-- a def without defaults -/
theorem fn0 {n p : Nat} (hK : K = cn.K) (F : FunD K x qual params body scope [] [] f fd) (S : FnScope N ps scope) (hb : L2.Binds K fd ps [])
    (hbody : ∀ (cdv : Value) (A : Around) (outer : List Env) (s : Shared) (H : Hp) (E : XK) (c : Ac), Ctx (cxOf (L2.CX P w) P w K mg base N qual scope f cdv A outer s H E) c (fun cls d _ H' => E cls d H') cn k →
      DSs (cxOf (L2.CX P w) P w K mg base N qual scope f cdv A outer s H E) c (fun cls d _ H' => E cls d H') body fb) (hn : N.length = n := by rfl) (hp : ps.length = p := by rfl) : FnR P w K mg base (L2.CX P w) (k + 1) f (spF cn (mOf n p fb)) := by
  subst hn hp
  exact fnr_of (dd := []) (dvs := []) (ds := []) (fnD_ok (cn := cn) F S fun cdv A outer s H E c hc hr => hbody cdv A outer s H E c ⟨by rw [hc]; exact hK, hc, hr, takes_of rfl rfl rfl rfl, rfl, S.nd, passes_of rfl⟩) rfl hb .nil fl0 fun xs g _ => by rw [List.append_nil]
theorem fo0 (hK : K = cn.K) (F : FunD K x qual params body scope [] [] f fd) (S : FnScope N ps scope)
    (hbody : ∀ (cdv : Value) (A : Around) (outer : List Env) (s : Shared) (H : Hp) (E : XK) (c : Ac), Ctx (cxOf (L2.CX P w) P w K mg base N qual scope f cdv A outer s H E) c (fun cls d _ H' => E cls d H') cn k →
      DSs (cxOf (L2.CX P w) P w K mg base N qual scope f cdv A outer s H E) c (fun cls d _ H' => E cls d H') body fb) {n p : Nat} (hn : N.length = n := by rfl) (hp : ps.length = p := by rfl) : FnOk P w K mg base (L2.CX P w) (k + 1) f fd ps (fun vs H Q E => vs.length = p ∧ spF cn (mOf n p fb) vs H Q E) := by
  subst hn hp
  exact fnD_ok (cn := cn) F S fun cdv A outer s H E c hc hr => hbody cdv A outer s H E c ⟨by rw [hc]; exact hK, hc, hr, takes_of rfl rfl rfl rfl, rfl, S.nd, passes_of rfl⟩
theorem in0 {n m p : Nat} (hK : K = cn.K) (F : FunD K x qual params body scope [] [] f fd) (S : FnScope N ps scope) (hb : L2.Binds K fd ps [])
    (hbody : ∀ (cdv : Value) (A : Around) (outer : List Env) (s : Shared) (H : Hp) (E : XK) (c : Ac), Ctx (cxOf (L2.CX P w) P w K mg base N qual scope f cdv A outer s H E) c (fun cls d _ H' => E cls d H') cn k →
      DSs (cxOf (L2.CX P w) P w K mg base N qual scope f cdv A outer s H E) c (fun cls d _ H' => E cls d H') body fb) (hn : N.length = m := by rfl) (hp : ps.length = p := by rfl) : FnR P w K mg base (L2.CX P w) (k + 1) f (spI cn n (mOfI m p fb)) := by
  subst hn hp
  exact fnr_ofI (dd := []) (dvs := []) (ds := []) (init_ok (cn := cn) F S fun cdv A outer s H E c hc hr => hbody cdv A outer s H E c ⟨by rw [hc]; exact hK, hc, hr, takes_of rfl rfl rfl rfl, rfl, S.nd, passes_of rfl⟩) rfl hb .nil fl0 fun xs g _ => by rw [List.append_nil]
end
end Dx

/-! Dx.Head: what the top has laid, told by plain tests of the written part: defs at any address, classes with slots. -/
namespace Dx
open PySem PySem.Spec PyProof.Rows L2

/-- a def without defaults, at an address that the written part tells -/
structure DfX where
  ad : PySem.W.Frag → Addr
  nm : Str
  qn : Str
  st : Stmt
def seeX (K : PySem.W.Frag) (a : Addr) : He.FnW := (K.lookup a).bind fun o => match o.data with
  | .func z => some (z.name, z.qualname, z.params, z.body, z.scope, z.globals, z.closure, z.builtins)
  | _ => none
def DfX.due (d : DfX) : He.FnW := some (d.nm, d.qn, defArgs d.st, .stmts (defBody d.st), defScope d.st, mainGlobals, [], builtinsNs)
def noV : Value → Bool
  | .none => true
  | _ => false
def okX (K : PySem.W.Frag) (d : DfX) : Bool := PySem.W.keepIn K (.ref (d.ad K)) && ((K.lookup (d.ad K)).elim false fun o => match o.data with
  | .func z => PySem.W.codeIn K z.code d.qn && noV z.defaults
  | _ => false)
theorem funX {K : PySem.W.Frag} {d : DfX} (e : seeX K (d.ad K) = d.due) (c : okX K d = true) : ∃ fd, FunD K d.nm d.qn (defArgs d.st) (defBody d.st) (defScope d.st) [] [] (d.ad K) fd := by
  obtain ⟨kp, c2⟩ := Bool.and_eq_true_iff.mp c
  unfold seeX at e
  cases q : K.lookup (d.ad K) with
  | none =>
    rw [q] at c2
    cases c2
  | some o =>
    rw [q] at c2 e
    obtain ⟨oc, od, dt, osl⟩ := o
    cases dt with
    | func z =>
      obtain ⟨n1, n2, n3, n4, n5, n6, n7, n8, n9, n10, n11, n12, n13, n14, n15⟩ := z
      have e2 : (some (n1, n2, n3, n4, n5, n6, n7, n15) : He.FnW) = d.due := e
      unfold DfX.due at e2
      simp only [Option.some.injEq, Prod.mk.injEq] at e2
      obtain ⟨h1, h2, h3, h4, h5, h6, h7, h8⟩ := e2
      subst h1 h2 h3 h4 h5 h6 h7 h8
      have c3 : (PySem.W.codeIn K n13 d.qn && noV n8) = true := c2
      obtain ⟨k1, k2⟩ := Bool.and_eq_true_iff.mp c3
      cases n8 with
      | none => exact ⟨_, ⟨oc, od, .none, n9, n10, n11, n12, n13, n14, osl, rfl, q, k1, .inl ⟨rfl, rfl⟩, .inl rfl⟩, kp⟩
      | _ => cases k2
    | _ => cases c2
/-! ### tests of classes with slots -/
def fstRef : Option (Option Value) → Option Addr
  | some (some (.ref a)) => some a
  | _ => none
def atX (K : PySem.W.Frag) (C : Addr) (f : Str) : Addr := (fstRef (PySem.W.findIn K (.ref C) f)).getD 0
/-- the function of a property -/
def prX (K : PySem.W.Frag) (C : Addr) (f : Str) : Addr := match PySem.W.recIn K (atX K C f) "property" with
  | some (.ref g :: _) => g
  | _ => 0
def sclB (K : PySem.W.Frag) (C : Addr) : Bool := PySem.W.plainGet K C Str.empty && PySem.W.isClsIn K C && PySem.W.plainOver K C && He.eqO (PySem.W.findIn K (.ref C) "__setattr__") (some (some (.builtin "object.__setattr__")))
theorem sclB_ok {K : PySem.W.Frag} {C : Addr} (h : sclB K C = true) : SlX.SCls K C := by
  unfold sclB at h
  simp only [Bool.and_eq_true] at h
  exact ⟨h.1.1.1, h.1.1.2, h.1.2, He.eqO_ok h.2⟩
def slB (K : PySem.W.Frag) (C : Addr) (f : Str) (i : Nat) : Bool := He.eqO (PySem.W.findIn K (.ref C) f) (some (some (.ref (atX K C f)))) && He.eqO (PySem.W.specialIn K (.ref (atX K C f)) "__get__") (some (some (.builtin "member_descriptor.__get__"))) &&
  decide (PySem.W.takesIn K (.ref (atX K C f)) = some true) && decide (PySem.W.typeIn K (.ref (atX K C f)) = some (.type "member_descriptor")) && decide (PySem.W.slotIn K (atX K C f) C = some i) && decide (i < 1000)
theorem slB_ok {K : PySem.W.Frag} {C : Addr} {f : Str} {i : Nat} (h : slB K C f i = true) : SlX.Slot1 K C f (atX K C f) i := by
  unfold slB at h
  simp only [Bool.and_eq_true, decide_eq_true_eq] at h
  exact ⟨He.eqO_ok h.1.1.1.1.1, He.eqO_ok h.1.1.1.1.2, h.1.1.1.2, h.1.1.2, h.1.2, h.2⟩
def meB (K : PySem.W.Frag) (C : Addr) (f : Str) : Bool := He.eqO (PySem.W.findIn K (.ref C) f) (some (some (.ref (atX K C f)))) && PySem.W.isFn K (.ref (atX K C f)) && PySem.W.keepIn K (.ref (atX K C f))
theorem meB_ok {K : PySem.W.Frag} {C : Addr} {f : Str} (h : meB K C f = true) : Meth K C f (atX K C f) := by
  unfold meB at h
  simp only [Bool.and_eq_true] at h
  exact ⟨He.eqO_ok h.1.1, h.1.2, h.2⟩
def mkB (K : PySem.W.Frag) (C : Addr) : Bool := PySem.W.makesIn K C && He.eqO (PySem.W.findIn K (.ref C) "__init__") (some (some (.ref (atX K C "__init__")))) && PySem.W.isFn K (.ref (atX K C "__init__")) && PySem.W.keepIn K (.ref C)
theorem mkB_ok {K : PySem.W.Frag} {C : Addr} (h : mkB K C = true) : Mk K C (atX K C "__init__") := by
  unfold mkB at h
  simp only [Bool.and_eq_true] at h
  exact ⟨h.1.1.1, He.eqO_ok h.1.1.2, h.1.2, h.2⟩
def pvB (K : PySem.W.Frag) (C : Addr) (f : Str) : Bool := He.eqO (PySem.W.findIn K (.ref C) f) (some (some (.ref (atX K C f)))) && He.eqO (PySem.W.specialIn K (.ref (atX K C f)) "__get__") (some (some (.builtin "property.__get__"))) &&
  decide (PySem.W.takesIn K (.ref (atX K C f)) = some true) && (match PySem.W.recIn K (atX K C f) "property" with
    | some (.ref _ :: _) => true
    | _ => false)
theorem pvB_ok {K : PySem.W.Frag} {C : Addr} {f : Str} (h : pvB K C f = true) : PySem.W.findIn K (.ref C) f = some (some (.ref (atX K C f))) ∧ PySem.W.specialIn K (.ref (atX K C f)) "__get__" = some (some (.builtin "property.__get__")) ∧
    PySem.W.takesIn K (.ref (atX K C f)) = some true ∧ ∃ rest, PySem.W.recIn K (atX K C f) "property" = some (.ref (prX K C f) :: rest) := by
  unfold pvB at h
  simp only [Bool.and_eq_true, decide_eq_true_eq] at h
  refine ⟨He.eqO_ok h.1.1.1, He.eqO_ok h.1.1.2, h.1.2, ?_⟩
  have h4 := h.2
  unfold prX
  split at h4
  · rename_i g rest e
    rw [e]
    exact ⟨rest, rfl⟩
  · cases h4
/-! ### the tests of a top, in one Hook -/
structure TstX where
  ts : List (PySem.W.Frag → Bool)
  ds : List DfX
def TstX.see (t : TstX) (K : PySem.W.Frag) : Bool × List He.FnW := ((t.ts.all fun f => f K) && t.ds.all (okX K), t.ds.map fun d => seeX K (d.ad K))
def TstX.due (t : TstX) : Bool × List He.FnW := (true, t.ds.map DfX.due)
def TstX.obs (t : TstX) (n : Nat) (g : Addr → Option Obj) : Bool × List He.FnW := t.see (He.frG g (He.asD g n))
def TstX.hook (t : TstX) (n : Nat) : PySem.W.Hook where
  α := Bool × List He.FnW
  obs := fun s => t.obs n s.heap.get?
  val := fun _ => t.due
  says := fun _ h => ∃ K : PySem.W.Frag, K.In h ∧ t.see K = t.due
  of := fun _ _ e => ⟨_, He.frG_in, e⟩
  keeps := fun _ _ _ ⟨K, hK, c⟩ k => ⟨K, PySem.W.Frag.In.keeps hK k, c⟩
def TstX.ob (t : TstX) (n : Nat) (s : PySem.W.SharedT) : Bool × List He.FnW := t.obs n (HandSHeadRun.getT s)
theorem TstX.ob_eq (t : TstX) (n : Nat) (s : PySem.W.SharedT) : t.ob n s = (t.hook n).obs s.abs := by
  show t.obs n (HandSHeadRun.getT s) = t.obs n s.abs.heap.get?
  rw [show HandSHeadRun.getT s = s.abs.heap.get? from funext (HandSHeadRun.getT_eq s)]
section
variable {t : TstX} {K : PySem.W.Frag} (c : t.see K = t.due)
include c
theorem TstX.tst (i : Nat) {f : PySem.W.Frag → Bool} (h : t.ts[i]? = some f := by rfl) : f K = true :=
  List.all_eq_true.mp (Bool.and_eq_true_iff.mp (congrArg Prod.fst c)).1 f (List.mem_of_getElem? h)
theorem TstX.def_ (i : Nat) {d : DfX} (h : t.ds[i]? = some d := by rfl) : ∃ fd, FunD K d.nm d.qn (defArgs d.st) (defBody d.st) (defScope d.st) [] [] (d.ad K) fd := by
  have c2 := (Bool.and_eq_true_iff.mp (congrArg Prod.fst c)).2
  have e : (t.ds.map fun d => seeX K (d.ad K)) = t.ds.map DfX.due := congrArg Prod.snd c
  have e2 : (t.ds.map fun d => seeX K (d.ad K))[i]? = (t.ds.map DfX.due)[i]? := by rw [e]
  rw [List.getElem?_map, List.getElem?_map, h] at e2
  exact funX (Option.some.inj e2) (List.all_eq_true.mp c2 d (List.mem_of_getElem? h))
end
/-! ### the law -/
theorem law_fin {P : Program} {w : World} {K : PySem.W.Frag} {mg : Str → Option Value} {base : Heap} {k : Nat} {f : Addr} {fd : FuncData} {ps : List Str} {cn : Cn} {m : Fm} (F : FnOk P w K mg base (L2.CX P w) k f fd ps (fun vs H Q E => vs.length = 1 ∧ spF cn m vs H Q E)) :
    FnOk P w K mg base CX0 k f fd ps (fun vs H Q _ => vs.length = 1 ∧ spF cn m vs H Q fun _ _ _ => False) :=
  ⟨fun vs H Q E h => F.len vs H Q _ h, fun A outer s H args us vs Q E hr he hb hv hs => codeAny_mono (F.run A outer s H args us vs Q _ hr he hb hv hs) fun r s' q => by
    cases r with
    | ok fl => cases fl <;> exact q
    | error e => exact cx_false q⟩
theorem law_true {K : PySem.W.Frag} {cn : Cn} {m : Fm} (hK : cn.K = K) (plain : ∀ ns : List Int, ns.length ≤ 63 → ∃ g, m [.scr ns] ⟨none, none⟩ = .ok (.v (.bl true)) g) (H : Hp) (a : Addr) (ns : List Int) (hl : ns.length ≤ 63) (hS : SqL K H a (ns.map V.int)) :
    [V.ref a].length = 1 ∧ spF cn m [.ref a] H (fun v _ => v = .bl true) fun _ _ _ => False := by
  refine ⟨rfl, H, ⟨0, 0, 0⟩, [.scr ns], ⟨none, none⟩, Same.refl _, ⟨fun _ _ _ q => (nomatch q), fun _ _ q => (nomatch q)⟩, .cons ⟨a, rfl, by rw [hK]; exact hS⟩ .nil, ?_⟩
  obtain ⟨g, e⟩ := plain ns hl
  rw [e]
  exact fun v H' Hf' _ r => r
end Dx

namespace K74
open PySem PySem.Spec PyProof.Rows L2 Dx
def ta_own_discriminant : Nat → Option Nat := fun n => match n with
  | 0 => some 0
  | _ => none
def ta_own_entries : Nat → Option Nat := fun n => match n with
  | 0 => some 1
  | _ => none
def ta_own_second : Nat → Option Nat := fun n => match n with
  | 0 => some 2
  | _ => none
def ta_own_text : Nat → Option Nat := fun n => match n with
  | 0 => some 3
  | _ => none
def b__law_dice : LSt → Fl := (zSeq (zSet 2 (sIf (sTst (sBin ltD (sVar 1) (sBlt lenD (sCons (sVar 0) sNil)))) (sBlt intD (sCons (sBin ixD (sVar 0) (sVar 1)) sNil)) (sBin addD (sBin mulD (sC (.int (71))) (sVar 1)) (sC (.int (23))))))
    (zSeq (zSet 3 (sBin modD (sBlt maxD (sCons (sC (.int (0))) (sCons (sBin subD (sBlt absD (sCons (sVar 2) sNil)) (sBin powD (sC (.int (10))) (sC (.int (17))))) sNil))) (sBin mulD (sBin powD (sC (.int (10))) (sC (.int (60)))) (sBin powD (sC (.int (10))) (sC (.int (57)))))))
    (zRetO (sLst (sCons (sVar 3) (sCons (sBin addD (sBin addD (sBin addD (sBin mulD (sBin modD (sBlt absD (sCons (sVar 2) sNil)) (sC (.int (1152921504606846803)))) (sC (.int (59)))) (sBin mulD (sC (.int (877))) (sVar 1))) (sBin mulD (sC (.int (47))) (sBlt intD (sCons (sBin ltD (sVar 2) (sC (.int (0)))) sNil)))) (sC (.int (5)))) (sCons (sC (.int (0))) sNil)))))))
def m__law_dice : Fm := mOf 4 2 b__law_dice
def b__law_roll : LSt → Fl := (zSeq (zIf (sTst (sBin gtD (sDie 0 0) (sC (.int (0))))) (zSeq (zSet 2 (sBin modD (sBlt intD (sCons (sDie 0 0) sNil)) (sVar 1)))
    (zSeq (zDie 0 0 (sBin divD (sDie 0 0) (sVar 1)))
    (zRet (sVar 2)))) zNext)
    (zSeq (zDie 0 2 (sBin addD (sDie 0 2) (sC (.int (1)))))
    (zSeq (zSet 3 (sBin modD (sBlt intD (sCons (sBin addD (sDie 0 1) (sBin mulD (sC (.int (86028157))) (sDie 0 2))) sNil)) (sC (.int (2305843009213693613)))))
    (zSeq (zSet 4 (sBin addD (sBin mulD (sBin modD (sBlt intD (sCons (sBin addD (sBin mulD (sVar 3) (sVar 3)) (sBin mulD (sC (.int (97))) (sDie 0 2))) sNil)) (sC (.int (2305843009213693669)))) (sC (.int (7654321)))) (sVar 3)))
    (zRet (sBin modD (sBlt intD (sCons (sBin divD (sVar 4) (sC (.int (131072)))) sNil)) (sVar 1)))))))
def m__law_roll : Fm := mOf 5 2 b__law_roll
def b__law_pick : LSt → Fl := (zRet (sBin ixD (sVar 1) (sCall m__law_roll (sCons (sVar 0) (sCons (sBlt lenD (sCons (sVar 1) sNil)) sNil)))))
def m__law_pick : Fm := mOf 2 2 b__law_pick
def b__law_hc_cubic : LSt → Fl := (zSeq (zSet 1 (sFrz (sLst (sCons (sTup (sCons (sC (.int (0))) (sCons (sUn negD (sC (.int (1)))) (sCons (sC (.int (1))) (sCons (sC (.int (0))) (sCons (sC (.int (0))) sNil)))))) (sCons (sTup (sCons (sC (.int (1))) (sCons (sC (.int (0))) (sCons (sC (.int (1))) (sCons (sUn negD (sC (.int (1)))) (sCons (sC (.int (0))) sNil)))))) (sCons (sTup (sCons (sC (.int (0))) (sCons (sC (.int (0))) (sCons (sC (.int (1))) (sCons (sUn negD (sC (.int (1)))) (sCons (sC (.int (0))) sNil)))))) (sCons (sTup (sCons (sC (.int (0))) (sCons (sC (.int (0))) (sCons (sC (.int (0))) (sCons (sUn negD (sC (.int (1)))) (sCons (sC (.int (0))) sNil)))))) (sCons (sTup (sCons (sC (.int (0))) (sCons (sC (.int (0))) (sCons (sC (.int (1))) (sCons (sC (.int (0))) (sCons (sC (.int (0))) sNil)))))) (sCons (sTup (sCons (sC (.int (1))) (sCons (sUn negD (sC (.int (1)))) (sCons (sC (.int (0))) (sCons (sUn negD (sC (.int (2)))) (sCons (sUn negD (sC (.int (1)))) sNil)))))) sNil)))))))))
    (zSeq (zIf (sTst (sBin eqD (sCall m__law_roll (sCons (sVar 0) (sCons (sC (.int (3))) sNil))) (sC (.int (0))))) (zRet (sCall m__law_pick (sCons (sVar 0) (sCons (sVar 1) sNil)))) zNext)
    (zRet (sBlt tupD (sCons (sFrz (sComp (sWalk rng1D (sCons (sC (.int (5))) sNil)) (gSet 2) sYes (sBin subD (sCall m__law_roll (sCons (sVar 0) (sCons (sC (.int (7))) sNil))) (sC (.int (3)))) [2])) sNil)))))
def m__law_hc_cubic : Fm := mOf 3 1 b__law_hc_cubic
def b__law_hc_numbers : LSt → Fl := (zSeq (zAsg (sVar 0) (gTupD 5 (gsCons (gSet 1) (gsCons (gSet 2) (gsCons (gSet 3) (gsCons (gSet 4) (gsCons (gSet 5) gsNil)))))))
    (zSeq (zPar 6 7 (sCons (sBin addD (sBin mulD (sVar 1) (sVar 1)) (sBin mulD (sC (.int (4))) (sVar 2))) (sCons (sBin addD (sBin mulD (sC (.int (2))) (sVar 4)) (sBin mulD (sVar 1) (sVar 3))) sNil)))
    (zSeq (zSet 8 (sBin addD (sBin mulD (sVar 3) (sVar 3)) (sBin mulD (sC (.int (4))) (sVar 5))))
    (zSeq (zSet 9 (sBin subD (sBin addD (sBin mulD (sBin mulD (sVar 1) (sVar 1)) (sVar 5)) (sBin mulD (sBin mulD (sC (.int (4))) (sVar 2)) (sVar 5))) (sBin mulD (sBin mulD (sVar 1) (sVar 3)) (sVar 4))))
    (zSeq (zSet 9 (sBin subD (sBin addD (sVar 9) (sBin mulD (sBin mulD (sVar 2) (sVar 3)) (sVar 3))) (sBin mulD (sVar 4) (sVar 4))))
    (zSeq (zSet 10 (sBin subD (sBin mulD (sBin mulD (sUn negD (sVar 6)) (sVar 6)) (sVar 9)) (sBin mulD (sBin mulD (sBin mulD (sC (.int (8))) (sVar 7)) (sVar 7)) (sVar 7))))
    (zSeq (zSet 10 (sBin addD (sBin subD (sVar 10) (sBin mulD (sBin mulD (sC (.int (27))) (sVar 8)) (sVar 8))) (sBin mulD (sBin mulD (sBin mulD (sC (.int (9))) (sVar 6)) (sVar 7)) (sVar 8))))
    (zRet (sTup (sCons (sVar 10) (sCons (sBin subD (sBin mulD (sVar 6) (sVar 6)) (sBin mulD (sC (.int (24))) (sVar 7))) sNil)))))))))))
def m__law_hc_numbers : Fm := mOf 11 1 b__law_hc_numbers
def b__law_hc_holds : LSt → Fl := (zSeq (zAsg (sVar 0) (gTupD 5 (gsCons (gSet 4) (gsCons (gSet 5) (gsCons (gSet 6) (gsCons (gSet 7) (gsCons (gSet 8) gsNil)))))))
    (zSeq (zSet 9 (sBin addD (sBin addD (sBin mulD (sVar 3) (sVar 3)) (sBin mulD (sBin mulD (sVar 4) (sVar 2)) (sVar 3))) (sBin mulD (sVar 6) (sVar 3))))
    (zSeq (zSet 10 (sBin addD (sBin addD (sBin addD (sBin mulD (sBin mulD (sVar 2) (sVar 2)) (sVar 2)) (sBin mulD (sBin mulD (sVar 5) (sVar 2)) (sVar 2))) (sBin mulD (sVar 7) (sVar 2))) (sVar 8)))
    (zRet (sBin eqD (sBin modD (sBin subD (sVar 9) (sVar 10)) (sVar 1)) (sC (.int (0))))))))
def m__law_hc_holds : Fm := mOf 11 4 b__law_hc_holds
def b__law_hc_trace : LSt → Fl := (zSeq (zSet 2 (sC (.int (0))))
    (zSeq (zForI (sWalk rng1D (sCons (sVar 1) sNil)) (gSet 3) (zSet 2 (sBin addD (sVar 2) (sBlt lenD (sCons (sFrz (sComp (sWalk rng1D (sCons (sVar 1) sNil)) (gSet 4) (sTru (sCall m__law_hc_holds (sCons (sVar 0) (sCons (sVar 1) (sCons (sVar 3) (sCons (sVar 4) sNil)))))) (sVar 4) [4])) sNil)))))
    (zRet (sBin subD (sVar 1) (sVar 2)))))
def m__law_hc_trace : Fm := mOf 5 2 b__law_hc_trace
def b__law_hc_kind : LSt → Fl := (zSeq (zAsg (sCall m__law_hc_numbers (sCons (sVar 0) sNil)) (gTupD 2 (gsCons (gSet 2) (gsCons (gSet 3) gsNil))))
    (zSeq (zIf (sTst (sBin neD (sBin modD (sVar 2) (sVar 1)) (sC (.int (0))))) (zRet (sC (.str "good"))) zNext)
    (zRet (sIf (sTst (sBin eqD (sBin modD (sVar 3) (sVar 1)) (sC (.int (0))))) (sC (.str "cusp")) (sC (.str "node"))))))
def m__law_hc_kind : Fm := mOf 4 2 b__law_hc_kind
def b__law_singular : LSt → Fl := (zSeq (zAsg (sVar 0) (gTupD 5 (gsCons (gSet 2) (gsCons (gSet 3) (gsCons (gSet 4) (gsCons (gSet 5) (gsCons (gSet 6) gsNil)))))))
    (zSeq (zForI (sWalk rng1D (sCons (sVar 1) sNil)) (gSet 7) (zForI (sWalk rng1D (sCons (sVar 1) sNil)) (gSet 8) (zIf (sAnd (sTru (sCall m__law_hc_holds (sCons (sVar 0) (sCons (sVar 1) (sCons (sVar 7) (sCons (sVar 8) sNil)))))) (sTst (sBin eqD (sBin modD (sBin addD (sBin addD (sBin mulD (sC (.int (2))) (sVar 8)) (sBin mulD (sVar 2) (sVar 7))) (sVar 4)) (sVar 1)) (sC (.int (0)))))) (zIf (sTst (sBin eqD (sBin modD (sBin subD (sBin subD (sBin subD (sBin mulD (sVar 2) (sVar 8)) (sBin mulD (sBin mulD (sC (.int (3))) (sVar 7)) (sVar 7))) (sBin mulD (sBin mulD (sC (.int (2))) (sVar 3)) (sVar 7))) (sVar 5)) (sVar 1)) (sC (.int (0))))) (zRet (sC (.bl true))) zNext) zNext)))
    (zRet (sC (.bl false)))))
def m__law_singular : Fm := mOf 9 2 b__law_singular
def b_is_plain : LSt → Fl := (zRet (sAndV (sUn (isiD 0) (sVar 0)) (sUn notD (sUn (isiD 1) (sVar 0)))))
def m_is_plain : Fm := mOf 1 1 b_is_plain
def b_powers_in : LSt → Fl := (zSeq (zParD 1 2 3 (sCons (sVar 0) (sCons (sC (.int (2))) sNil)))
    (zSeq (zWhile (sTst (sBin leD (sBin mulD (sVar 3) (sVar 3)) (sVar 2))) (zSeq (zWhile (sTst (sBin eqD (sBin modD (sVar 2) (sVar 3)) (sC (.int (0))))) (zSeq (zDPut 1 (sVar 3) (sBin addD (sDGet2 1 (sVar 3) (sC (.int (0)))) (sC (.int (1)))))
    (zAug 2 divD (sVar 3))) 64)
    (zAug 3 (i2 fun i j => i + j) (sIf (sTst (sBin eqD (sVar 3) (sC (.int (2))))) (sC (.int (1))) (sC (.int (2)))))) 64)
    (zSeq (zIf (sTst (sBin gtD (sVar 2) (sC (.int (1))))) (zDPut 1 (sVar 2) (sBin addD (sDGet2 1 (sVar 2) (sC (.int (0)))) (sC (.int (1))))) zNext)
    (zRetV 1))))
def m_powers_in : Fm := mOf 4 1 b_powers_in
def b_is_prime : LSt → Fl := (zSeq (zIf (sOr (sNot (sTru (sCall m_is_plain (sCons (sVar 0) sNil)))) (sNot (sTst (sChain leD leD (sC (.int (2))) (sVar 0) (sC (.int (1000000000))))))) (zRet (sC (.bl false))) zNext)
    (zRet (sBin eqD (sUn valsD (sCall m_powers_in (sCons (sVar 0) sNil))) (sFrz (sLst (sCons (sC (.int (1))) sNil))))))
def m_is_prime : Fm := mOf 1 1 b_is_prime
def b_need_prime : LSt → Fl := (zIf (sOr (sNot (sTru (sCall m_is_prime (sCons (sVar 0) sNil)))) (sTst (sBin gtD (sVar 0) (sC (.int (97)))))) (fun _ => .bad) zNext)
def m_need_prime : Fm := mOf 1 1 b_need_prime
def b_Cubic_count_pairs : LSt → Fl := (zSeq (zAsg (sAttr ta_own_entries (sVar 0)) (gTupD 5 (gsCons (gSet 2) (gsCons (gSet 3) (gsCons (gSet 4) (gsCons (gSet 5) (gsCons (gSet 6) gsNil)))))))
    (zSeq (zSet 7 (sC (.int (0))))
    (zSeq (zForI (sWalk rng1D (sCons (sVar 1) sNil)) (gSet 8) (zSeq (zAsg (sTup (sCons (sBin addD (sBin mulD (sBin addD (sBin mulD (sBin addD (sVar 8) (sVar 3)) (sVar 8)) (sVar 5)) (sVar 8)) (sVar 6)) (sCons (sBin addD (sBin mulD (sVar 2) (sVar 8)) (sVar 4)) sNil))) (gTupD 2 (gsCons (gSet 9) (gsCons (gSet 10) gsNil))))
    (zAug 7 (i2 fun i j => i + j) (sBlt lenD (sCons (sFrz (sComp (sWalk rng1D (sCons (sVar 1) sNil)) (gSet 11) (sTst (sBin eqD (sBin modD (sBin subD (sBin mulD (sBin addD (sVar 11) (sVar 10)) (sVar 11)) (sVar 9)) (sVar 1)) (sC (.int (0))))) (sVar 11) [11])) sNil)))))
    (zRet (sVar 7)))))
def m_Cubic_count_pairs : Fm := mOf 12 2 b_Cubic_count_pairs
def tm_count_pairs : Nat → Option Fm := fun n => match n with
  | 0 => some m_Cubic_count_pairs
  | _ => none
def b_Cubic_trace_at : LSt → Fl := (zSeq (zDrop (sCall m_need_prime (sCons (sVar 1) sNil)))
    (zRet (sBin subD (sVar 1) (sMth tm_count_pairs (sVar 0) (sCons (sVar 1) sNil)))))
def m_Cubic_trace_at : Fm := mOf 2 2 b_Cubic_trace_at
def b_Cubic_kind_in : LSt → Fl := (zSeq (zIf (sTst (sBin neD (sBin modD (sAttr ta_own_discriminant (sVar 0)) (sVar 1)) (sC (.int (0))))) (zRet (sC (.str "good"))) zNext)
    (zRet (sIf (sTst (sBin eqD (sBin modD (sAttr ta_own_second (sVar 0)) (sVar 1)) (sC (.int (0))))) (sC (.str "cusp")) (sC (.str "node")))))
def m_Cubic_kind_in : Fm := mOf 2 2 b_Cubic_kind_in
def tm_kind_in : Nat → Option Fm := fun n => match n with
  | 0 => some m_Cubic_kind_in
  | _ => none
def b_Cubic_kind_at : LSt → Fl := (zSeq (zDrop (sCall m_need_prime (sCons (sVar 1) sNil)))
    (zRet (sMth tm_kind_in (sVar 0) (sCons (sVar 1) sNil))))
def m_Cubic_kind_at : Fm := mOf 2 2 b_Cubic_kind_at
def tm_kind_at : Nat → Option Fm := fun n => match n with
  | 0 => some m_Cubic_kind_at
  | _ => none
def tm_trace_at : Nat → Option Fm := fun n => match n with
  | 0 => some m_Cubic_trace_at
  | _ => none
def b__law_at_right : LSt → Fl := (zSeq (zPar 3 4 (sCons (sMth tm_trace_at (sVar 0) (sCons (sVar 2) sNil)) (sCons (sMth tm_kind_at (sVar 0) (sCons (sVar 2) sNil)) sNil)))
    (zSeq (zIf (sOr (sTst (sBin neD (sVar 3) (sCall m__law_hc_trace (sCons (sVar 1) (sCons (sVar 2) sNil))))) (sTst (sBin neD (sVar 4) (sCall m__law_hc_kind (sCons (sVar 1) (sCons (sVar 2) sNil)))))) (zRet (sC (.bl false))) zNext)
    (zSeq (zIf (sTst (sBin neD (sCall m__law_singular (sCons (sVar 1) (sCons (sVar 2) sNil))) (sBin neD (sVar 4) (sC (.str "good"))))) (zRet (sC (.bl false))) zNext)
    (zSeq (zIf (sTst (sBin eqD (sVar 4) (sC (.str "good")))) (zRet (sBin leD (sBin mulD (sVar 3) (sVar 3)) (sBin mulD (sC (.int (4))) (sVar 2)))) zNext)
    (zRet (sBin eqD (sBlt absD (sCons (sVar 3) sNil)) (sBlt intD (sCons (sBin eqD (sVar 4) (sC (.str "node"))) sNil))))))))
def m__law_at_right : Fm := mOf 5 3 b__law_at_right
def b_is_short : LSt → Fl := (zRet (sAndV (sCall m_is_plain (sCons (sVar 0) sNil)) (sChain ltD ltD (sUn negD (sC (.int (1000000000000000000000000000000000000000000000000000000000000)))) (sVar 0) (sC (.int (1000000000000000000000000000000000000000000000000000000000000))))))
def m_is_short : Fm := mOf 1 1 b_is_short
def b_is_integer : LSt → Fl := (zRet (sCall m_is_short (sCons (sVar 0) sNil)))
def m_is_integer : Fm := mOf 1 1 b_is_integer
def b_Cubic_init : LSt → Fl := (zSeq (zSet 6 (sTup (sCons (sVar 1) (sCons (sVar 2) (sCons (sVar 3) (sCons (sVar 4) (sCons (sVar 5) sNil)))))))
    (zSeq (zIf (sNot (sTru (sBlt allD (sCons (sFrz (sComp (sItems (sVar 6)) (gSet 7) sYes (sAndV (sCall m_is_integer (sCons (sVar 7) sNil)) (sChain leD leD (sUn negD (sC (.int (1000)))) (sVar 7) (sC (.int (1000))))) [7])) sNil)))) (fun _ => .bad) zNext)
    (zSeq (zPar3 8 9 10 (sCons (sBin addD (sBin mulD (sVar 1) (sVar 1)) (sBin mulD (sC (.int (4))) (sVar 2))) (sCons (sBin addD (sBin mulD (sC (.int (2))) (sVar 4)) (sBin mulD (sVar 1) (sVar 3))) (sCons (sBin addD (sBin mulD (sVar 3) (sVar 3)) (sBin mulD (sC (.int (4))) (sVar 5))) sNil))))
    (zSeq (zSet 11 (sBin subD (sBin addD (sBin subD (sBin addD (sBin mulD (sBin mulD (sVar 1) (sVar 1)) (sVar 5)) (sBin mulD (sBin mulD (sC (.int (4))) (sVar 2)) (sVar 5))) (sBin mulD (sBin mulD (sVar 1) (sVar 3)) (sVar 4))) (sBin mulD (sBin mulD (sVar 2) (sVar 3)) (sVar 3))) (sBin mulD (sVar 4) (sVar 4))))
    (zSeq (zSelf 0 ta_own_entries (sVar 6))
    (zSeq (zSelf 0 ta_own_discriminant (sBin addD (sBin subD (sBin subD (sBin mulD (sBin mulD (sUn negD (sVar 8)) (sVar 8)) (sVar 11)) (sBin mulD (sBin mulD (sBin mulD (sC (.int (8))) (sVar 9)) (sVar 9)) (sVar 9))) (sBin mulD (sBin mulD (sC (.int (27))) (sVar 10)) (sVar 10))) (sBin mulD (sBin mulD (sBin mulD (sC (.int (9))) (sVar 8)) (sVar 9)) (sVar 10))))
    (zSeq (zSelf 0 ta_own_second (sBin subD (sBin mulD (sVar 8) (sVar 8)) (sBin mulD (sC (.int (24))) (sVar 9))))
    (zSelf 0 ta_own_text (sJoinP [(sC (.str "cubic ")), (sUn fmtD (sVar 1)), (sC (.str " ")), (sUn fmtD (sVar 2)), (sC (.str " ")), (sUn fmtD (sVar 3)), (sC (.str " ")), (sUn fmtD (sVar 4)), (sC (.str " ")), (sUn fmtD (sVar 5))] Str.empty)))))))))
def i_Cubic : Fm := mOfI 12 6 b_Cubic_init
def b_Cubic_discriminant : LSt → Fl := (zRet (sAttr ta_own_discriminant (sVar 0)))
def m_Cubic_discriminant : Fm := mOf 1 1 b_Cubic_discriminant
def b_Cubic_second : LSt → Fl := (zRet (sAttr ta_own_second (sVar 0)))
def m_Cubic_second : Fm := mOf 1 1 b_Cubic_second
def tp_discriminant : Nat → Option Fm := fun n => match n with
  | 0 => some m_Cubic_discriminant
  | _ => none
def tp_second : Nat → Option Fm := fun n => match n with
  | 0 => some m_Cubic_second
  | _ => none
def b__law_right : LSt → Fl := (zSeq (zSet 1 (sCall m__law_hc_cubic (sCons (sVar 0) sNil)))
    (zSeq (zIf (sTst (sBin eqD (sCall m__law_roll (sCons (sVar 0) (sCons (sC (.int (3))) sNil))) (sC (.int (0))))) (zSet 1 (sBlt tupD (sCons (sFrz (sComp (sWalk rng1D (sCons (sC (.int (5))) sNil)) (gSet 2) sYes (sBin subD (sCall m__law_roll (sCons (sVar 0) (sCons (sC (.int (2001))) sNil))) (sC (.int (1000)))) [2])) sNil))) zNext)
    (zSeq (zSet 3 (sCall (mkC 0 i_Cubic) (sCons (sBin ixD (sVar 1) (sC (.int (0)))) (sCons (sBin ixD (sVar 1) (sC (.int (1)))) (sCons (sBin ixD (sVar 1) (sC (.int (2)))) (sCons (sBin ixD (sVar 1) (sC (.int (3)))) (sCons (sBin ixD (sVar 1) (sC (.int (4)))) sNil)))))))
    (zSeq (zIf (sTst (sBin neD (sTup (sCons (sPrp tp_discriminant (sVar 3)) (sCons (sPrp tp_second (sVar 3)) sNil))) (sCall m__law_hc_numbers (sCons (sVar 1) sNil)))) (zRet (sC (.bl false))) zNext)
    (zSeq (zSet 4 (sFrz (sLst (sCons (sC (.int (2))) (sCons (sC (.int (3))) (sCons (sCall m__law_pick (sCons (sVar 0) (sCons (sFrz (sLst (sCons (sC (.int (5))) (sCons (sC (.int (7))) (sCons (sC (.int (11))) (sCons (sC (.int (13))) sNil)))))) sNil))) (sCons (sCall m__law_pick (sCons (sVar 0) (sCons (sFrz (sLst (sCons (sC (.int (17))) (sCons (sC (.int (19))) (sCons (sC (.int (23))) (sCons (sC (.int (29))) (sCons (sC (.int (31))) (sCons (sC (.int (37))) sNil)))))))) sNil))) sNil)))))))
    (zRet (sBin eqD (sFrz (sComp (sItems (sVar 4)) (gSet 5) (sNot (sTru (sCall m__law_at_right (sCons (sVar 3) (sCons (sVar 1) (sCons (sVar 5) sNil)))))) (sVar 5) [5])) (sFrz (sLst sNil)))))))))
def m__law_right : Fm := mOf 6 1 b__law_right
def b_law : LSt → Fl := (zSeq (zForI (sWalk rng1D (sCons (sBlt maxD (sCons (sC (.int (1))) (sCons (sBlt minD (sCons (sC (.int (3))) (sCons (sBlt lenD (sCons (sVar 0) sNil)) sNil))) sNil))) sNil)) (gSet 1) (zSeq (zSetO 2 (sCallO m__law_dice (sCons (sVar 0) (sCons (sVar 1) sNil))))
    (zIf (sOr (sNot (sTru (sLend 2 m__law_right sNil))) (sNot (sTru (sLend 2 m__law_right sNil)))) (zRet (sC (.bl false))) zNext)))
    (zSeq (zAsg (sTup (sCons (sCall (mkC 0 i_Cubic) (sCons (sC (.int (0))) (sCons (sUn negD (sC (.int (1)))) (sCons (sC (.int (1))) (sCons (sC (.int (0))) (sCons (sC (.int (0))) sNil)))))) (sCons (sCall (mkC 0 i_Cubic) (sCons (sC (.int (0))) (sCons (sC (.int (0))) (sCons (sC (.int (1))) (sCons (sUn negD (sC (.int (1)))) (sCons (sC (.int (0))) sNil)))))) sNil))) (gTupD 2 (gsCons (gSet 3) (gsCons (gSet 4) gsNil))))
    (zSeq (zIf (sTst (sBin neD (sFrz (sComp (sItems (sTup (sCons (sC (.int (2))) (sCons (sC (.int (3))) (sCons (sC (.int (5))) (sCons (sC (.int (7))) (sCons (sC (.int (11))) (sCons (sC (.int (13))) sNil)))))))) (gSet 5) sYes (sMth tm_trace_at (sVar 3) (sCons (sVar 5) sNil)) [5])) (sFrz (sLst (sCons (sUn negD (sC (.int (2)))) (sCons (sUn negD (sC (.int (1)))) (sCons (sC (.int (1))) (sCons (sUn negD (sC (.int (2)))) (sCons (sC (.int (1))) (sCons (sC (.int (4))) sNil)))))))))) (zRet (sC (.bl false))) zNext)
    (zSeq (zIf (sTst (sBin neD (sFrz (sComp (sItems (sTup (sCons (sC (.int (2))) (sCons (sC (.int (3))) (sCons (sC (.int (5))) (sCons (sC (.int (7))) (sCons (sC (.int (37))) sNil))))))) (gSet 5) sYes (sMth tm_trace_at (sVar 4) (sCons (sVar 5) sNil)) [5])) (sFrz (sLst (sCons (sUn negD (sC (.int (2)))) (sCons (sUn negD (sC (.int (3)))) (sCons (sUn negD (sC (.int (2)))) (sCons (sUn negD (sC (.int (1)))) (sCons (sUn negD (sC (.int (1)))) sNil))))))))) (zRet (sC (.bl false))) zNext)
    (zRet (sBin eqD (sFrz (sLst (sCons (sPrp tp_discriminant (sVar 3)) (sCons (sPrp tp_second (sVar 3)) (sCons (sMth tm_kind_at (sVar 3) (sCons (sC (.int (11))) sNil)) (sCons (sMth tm_kind_at (sCall (mkC 0 i_Cubic) (sCons (sC (.int (0))) (sCons (sC (.int (0))) (sCons (sC (.int (1))) (sCons (sC (.int (0))) (sCons (sC (.int (0))) sNil)))))) (sCons (sC (.int (3))) sNil)) sNil)))))) (sFrz (sLst (sCons (sUn negD (sC (.int (11)))) (sCons (sC (.int (16))) (sCons (sC (.str "node")) (sCons (sC (.str "cusp")) sNil))))))))))))
def m_law : Fm := mOf 6 1 b_law
end K74

/-! k74, the plain part: points of a cubic modulo a small prime. -/
namespace K74
/-! ### congruences -/
def Mo (p a b : Int) : Prop := a % p = b % p
theorem Mo.refl {p : Int} (a : Int) : Mo p a a := rfl
theorem Mo.symm {p a b : Int} (h : Mo p a b) : Mo p b a := Eq.symm h
theorem Mo.trans {p a b c : Int} (h : Mo p a b) (k : Mo p b c) : Mo p a c := Eq.trans h k
theorem Mo.add {p a b c d : Int} (h : Mo p a b) (k : Mo p c d) : Mo p (a + c) (b + d) := by
  unfold Mo at *
  rw [Int.add_emod, h, k, ← Int.add_emod]
theorem Mo.mul {p a b c d : Int} (h : Mo p a b) (k : Mo p c d) : Mo p (a * c) (b * d) := by
  unfold Mo at *
  rw [Int.mul_emod, h, k, ← Int.mul_emod]
theorem Mo.sub {p a b c d : Int} (h : Mo p a b) (k : Mo p c d) : Mo p (a - c) (b - d) := by
  unfold Mo at *
  rw [Int.sub_emod, h, k, ← Int.sub_emod]
theorem Mo.neg {p a b : Int} (h : Mo p a b) : Mo p (-a) (-b) := by
  have := Mo.sub (Mo.refl (p := p) 0) h
  simpa using this
theorem Mo.md {p a : Int} : Mo p (a % p) a := by
  unfold Mo
  exact Int.emod_emod_of_dvd _ (Int.dvd_refl _)
theorem Mo.per {p x k : Int} : Mo p (x + p * k) x := by
  unfold Mo
  exact Int.add_mul_emod_self_left ..
theorem Mo.iff {p a b : Int} (h : Mo p a b) : a % p = 0 ↔ b % p = 0 := by
  unfold Mo at h
  rw [h]
/-! ### sums over 0 .. n - 1 -/
def sm : Nat → (Int → Int) → Int
  | 0, _ => 0
  | n + 1, h => sm n h + h n
theorem sm_congr : ∀ (n : Nat) (h k : Int → Int), (∀ x : Nat, x < n → h x = k x) → sm n h = sm n k
  | 0, _, _, _ => rfl
  | n + 1, h, k, e => by
    unfold sm
    rw [sm_congr n h k fun x hx => e x (Nat.lt_succ_of_lt hx), e n (Nat.lt_succ_self n)]
theorem sm_shift1 : ∀ (n : Nat) (h : Int → Int), sm n (fun x => h (x + 1)) = sm n h + h n - h 0
  | 0, h => by
    unfold sm
    simp
  | n + 1, h => by
    unfold sm
    rw [sm_shift1 n h]
    show sm n h + h n - h 0 + h ((n : Int) + 1) = sm n h + h n + h ((n + 1 : Nat) : Int) - h 0
    have e : ((n : Int) + 1) = ((n + 1 : Nat) : Int) := by omega
    rw [e]
    omega
def Per (p : Nat) (h : Int → Int) : Prop := ∀ x y : Int, Mo p x y → h x = h y
theorem sm_shiftN {p : Nat} {h : Int → Int} (P : Per p h) : ∀ r : Nat, sm p (fun x => h (x + r)) = sm p h
  | 0 => sm_congr _ _ _ fun x _ => by simp
  | r + 1 => by
    have e : (fun x : Int => h (x + ((r + 1 : Nat) : Int))) = fun x => (fun z => h (z + r)) (x + 1) := by
      funext x
      show h _ = h _
      congr 1
      omega
    rw [e, sm_shift1 p (fun z => h (z + r))]
    show sm p (fun z => h (z + r)) + h (p + r) - h (0 + r) = _
    rw [P (p + r) (0 + r) ((by
      show ((p : Int) + r) % p = (0 + r) % p
      rw [Int.zero_add, Int.add_comm, Int.add_emod_right]) : Mo p _ _), sm_shiftN P r]
    omega
theorem sm_shift {p : Nat} (hp : 0 < p) {h : Int → Int} (P : Per p h) (r : Int) : sm p (fun x => h (x + r)) = sm p h := by
  have e : (fun x : Int => h (x + r)) = fun x => h (x + ((r % p).toNat : Nat)) := by
    funext x
    refine P _ _ (Mo.add (Mo.refl x) ?_)
    have h0 : 0 ≤ r % p := Int.emod_nonneg _ (by omega)
    rw [Int.toNat_of_nonneg h0]
    exact Mo.md.symm
  rw [e]
  exact sm_shiftN P _
def ind (b : Bool) : Int := if b = true then 1 else 0
/-! ### a cubic -/
def cF (a1 a2 a3 a4 a6 x y : Int) : Int := y * y + a1 * x * y + a3 * y - (x * x * x + a2 * x * x + a4 * x + a6)
def cY (a1 a3 x y : Int) : Int := 2 * y + a1 * x + a3
def cX (a1 a2 a4 x y : Int) : Int := a1 * y - 3 * x * x - 2 * a2 * x - a4
def hol (p : Nat) (a1 a2 a3 a4 a6 x y : Int) : Bool := decide (cF a1 a2 a3 a4 a6 x y % p = 0)
def sgl (p : Nat) (a1 a2 a3 a4 a6 x y : Int) : Bool := decide (cF a1 a2 a3 a4 a6 x y % p = 0) && (decide (cY a1 a3 x y % p = 0) && decide (cX a1 a2 a4 x y % p = 0))
def cnt (p : Nat) (a1 a2 a3 a4 a6 : Int) : Int := sm p fun x => sm p fun y => ind (hol p a1 a2 a3 a4 a6 x y)
def sng (p : Nat) (a1 a2 a3 a4 a6 : Int) : Int := sm p fun x => sm p fun y => ind (sgl p a1 a2 a3 a4 a6 x y)
def b2 (a1 a2 : Int) : Int := a1 * a1 + 4 * a2
def b4 (a1 a3 a4 : Int) : Int := 2 * a4 + a1 * a3
def b6 (a3 a6 : Int) : Int := a3 * a3 + 4 * a6
def b8 (a1 a2 a3 a4 a6 : Int) : Int := a1 * a1 * a6 + 4 * a2 * a6 - a1 * a3 * a4 + a2 * a3 * a3 - a4 * a4
def dof (b2 b4 b6 b8 : Int) : Int := -b2 * b2 * b8 - 8 * b4 * b4 * b4 - 27 * b6 * b6 + 9 * b2 * b4 * b6
def dsc (a1 a2 a3 a4 a6 : Int) : Int := dof (b2 a1 a2) (b4 a1 a3 a4) (b6 a3 a6) (b8 a1 a2 a3 a4 a6)
def sec (a1 a2 a3 a4 : Int) : Int := b2 a1 a2 * b2 a1 a2 - 24 * b4 a1 a3 a4
def Good (p : Nat) (a1 a2 a3 a4 a6 : Int) : Prop :=
  (sng p a1 a2 a3 a4 a6 ≠ 0 ↔ dsc a1 a2 a3 a4 a6 % p = 0) ∧ (dsc a1 a2 a3 a4 a6 % p ≠ 0 → (p - cnt p a1 a2 a3 a4 a6) * (p - cnt p a1 a2 a3 a4 a6) ≤ 4 * p) ∧
  (dsc a1 a2 a3 a4 a6 % p = 0 → sec a1 a2 a3 a4 % p = 0 → cnt p a1 a2 a3 a4 a6 = p) ∧ (dsc a1 a2 a3 a4 a6 % p = 0 → sec a1 a2 a3 a4 % p ≠ 0 → cnt p a1 a2 a3 a4 a6 = p + 1 ∨ cnt p a1 a2 a3 a4 a6 + 1 = p)
section
variable {p : Nat} {a1 a2 a3 a4 a6 c1 c2 c3 c4 c6 x y u v : Int}
theorem cF_mo (h1 : Mo p a1 c1) (h2 : Mo p a2 c2) (h3 : Mo p a3 c3) (h4 : Mo p a4 c4) (h6 : Mo p a6 c6) (hx : Mo p x u) (hy : Mo p y v) : Mo p (cF a1 a2 a3 a4 a6 x y) (cF c1 c2 c3 c4 c6 u v) := by
  unfold cF
  exact (((hy.mul hy).add ((h1.mul hx).mul hy)).add (h3.mul hy)).sub (((((hx.mul hx).mul hx).add ((h2.mul hx).mul hx)).add (h4.mul hx)).add h6)
theorem cY_mo (h1 : Mo p a1 c1) (h3 : Mo p a3 c3) (hx : Mo p x u) (hy : Mo p y v) : Mo p (cY a1 a3 x y) (cY c1 c3 u v) := by
  unfold cY
  exact (((Mo.refl 2).mul hy).add (h1.mul hx)).add h3
theorem cX_mo (h1 : Mo p a1 c1) (h2 : Mo p a2 c2) (h4 : Mo p a4 c4) (hx : Mo p x u) (hy : Mo p y v) : Mo p (cX a1 a2 a4 x y) (cX c1 c2 c4 u v) := by
  unfold cX
  exact (((h1.mul hy).sub (((Mo.refl 3).mul hx).mul hx)).sub (((Mo.refl 2).mul h2).mul hx)).sub h4
theorem hol_mo (h1 : Mo p a1 c1) (h2 : Mo p a2 c2) (h3 : Mo p a3 c3) (h4 : Mo p a4 c4) (h6 : Mo p a6 c6) (hx : Mo p x u) (hy : Mo p y v) : hol p a1 a2 a3 a4 a6 x y = hol p c1 c2 c3 c4 c6 u v := by
  unfold hol
  rw [show (cF a1 a2 a3 a4 a6 x y % p) = cF c1 c2 c3 c4 c6 u v % p from cF_mo h1 h2 h3 h4 h6 hx hy]
theorem sgl_mo (h1 : Mo p a1 c1) (h2 : Mo p a2 c2) (h3 : Mo p a3 c3) (h4 : Mo p a4 c4) (h6 : Mo p a6 c6) (hx : Mo p x u) (hy : Mo p y v) : sgl p a1 a2 a3 a4 a6 x y = sgl p c1 c2 c3 c4 c6 u v := by
  unfold sgl
  rw [show (cF a1 a2 a3 a4 a6 x y % p) = cF c1 c2 c3 c4 c6 u v % p from cF_mo h1 h2 h3 h4 h6 hx hy, show (cY a1 a3 x y % p) = cY c1 c3 u v % p from cY_mo h1 h3 hx hy, show (cX a1 a2 a4 x y % p) = cX c1 c2 c4 u v % p from cX_mo h1 h2 h4 hx hy]
theorem dsc_mo (h1 : Mo p a1 c1) (h2 : Mo p a2 c2) (h3 : Mo p a3 c3) (h4 : Mo p a4 c4) (h6 : Mo p a6 c6) : Mo p (dsc a1 a2 a3 a4 a6) (dsc c1 c2 c3 c4 c6) := by
  have e2 : Mo p (b2 a1 a2) (b2 c1 c2) := (h1.mul h1).add ((Mo.refl 4).mul h2)
  have e4 : Mo p (b4 a1 a3 a4) (b4 c1 c3 c4) := ((Mo.refl 2).mul h4).add (h1.mul h3)
  have e6 : Mo p (b6 a3 a6) (b6 c3 c6) := (h3.mul h3).add ((Mo.refl 4).mul h6)
  have e8 : Mo p (b8 a1 a2 a3 a4 a6) (b8 c1 c2 c3 c4 c6) := ((((((h1.mul h1).mul h6).add (((Mo.refl 4).mul h2).mul h6)).sub ((h1.mul h3).mul h4)).add ((h2.mul h3).mul h3)).sub (h4.mul h4))
  exact ((((e2.neg.mul e2).mul e8).sub ((((Mo.refl 8).mul e4).mul e4).mul e4)).sub (((Mo.refl 27).mul e6).mul e6)).add ((((Mo.refl 9).mul e2).mul e4).mul e6)
theorem sec_mo (h1 : Mo p a1 c1) (h2 : Mo p a2 c2) (h3 : Mo p a3 c3) (h4 : Mo p a4 c4) : Mo p (sec a1 a2 a3 a4) (sec c1 c2 c3 c4) := by
  have e2 : Mo p (b2 a1 a2) (b2 c1 c2) := (h1.mul h1).add ((Mo.refl 4).mul h2)
  have e4 : Mo p (b4 a1 a3 a4) (b4 c1 c3 c4) := ((Mo.refl 2).mul h4).add (h1.mul h3)
  exact (e2.mul e2).sub ((Mo.refl 24).mul e4)
/-- what is asked hangs on the residues alone -/
theorem good_mo (h1 : Mo p a1 c1) (h2 : Mo p a2 c2) (h3 : Mo p a3 c3) (h4 : Mo p a4 c4) (h6 : Mo p a6 c6) (g : Good p c1 c2 c3 c4 c6) : Good p a1 a2 a3 a4 a6 := by
  have ec : cnt p a1 a2 a3 a4 a6 = cnt p c1 c2 c3 c4 c6 := sm_congr _ _ _ fun x _ => sm_congr _ _ _ fun y _ => by rw [hol_mo h1 h2 h3 h4 h6 (Mo.refl _) (Mo.refl _)]
  have es : sng p a1 a2 a3 a4 a6 = sng p c1 c2 c3 c4 c6 := sm_congr _ _ _ fun x _ => sm_congr _ _ _ fun y _ => by rw [sgl_mo h1 h2 h3 h4 h6 (Mo.refl _) (Mo.refl _)]
  have ed : dsc a1 a2 a3 a4 a6 % p = dsc c1 c2 c3 c4 c6 % p := dsc_mo h1 h2 h3 h4 h6
  have ee : sec a1 a2 a3 a4 % p = sec c1 c2 c3 c4 % p := sec_mo h1 h2 h3 h4
  unfold Good at *
  rw [ec, es, ed, ee]
  exact g
/-! ### another x, another y -/
variable {r s t : Int}
def n1 (a1 s : Int) : Int := a1 + 2 * s
def n2 (a1 a2 r s : Int) : Int := a2 - s * a1 + 3 * r - s * s
def n3 (a1 a3 r t : Int) : Int := a3 + r * a1 + 2 * t
def n4 (a1 a2 a3 a4 r s t : Int) : Int := a4 - s * a3 + 2 * r * a2 - (t + r * s) * a1 + 3 * r * r - 2 * s * t
def n6 (a1 a2 a3 a4 a6 r t : Int) : Int := a6 + r * a4 + r * r * a2 + r * r * r - t * a3 - t * t - r * t * a1
theorem cF_new : cF (n1 a1 s) (n2 a1 a2 r s) (n3 a1 a3 r t) (n4 a1 a2 a3 a4 r s t) (n6 a1 a2 a3 a4 a6 r t) x y = cF a1 a2 a3 a4 a6 (x + r) (y + (s * x + t)) := by
  unfold cF n1 n2 n3 n4 n6
  grind
theorem cY_new : cY (n1 a1 s) (n3 a1 a3 r t) x y = cY a1 a3 (x + r) (y + (s * x + t)) := by
  unfold cY n1 n3
  grind
theorem cX_new : cX (n1 a1 s) (n2 a1 a2 r s) (n4 a1 a2 a3 a4 r s t) x y = cX a1 a2 a4 (x + r) (y + (s * x + t)) + s * cY a1 a3 (x + r) (y + (s * x + t)) := by
  unfold cX cY n1 n2 n4
  grind
theorem b2_new : b2 (n1 a1 s) (n2 a1 a2 r s) = b2 a1 a2 + 12 * r := by
  unfold b2 n1 n2
  grind
theorem b4_new : b4 (n1 a1 s) (n3 a1 a3 r t) (n4 a1 a2 a3 a4 r s t) = b4 a1 a3 a4 + r * b2 a1 a2 + 6 * r * r := by
  unfold b4 b2 n1 n3 n4
  grind
theorem b6_new : b6 (n3 a1 a3 r t) (n6 a1 a2 a3 a4 a6 r t) = b6 a3 a6 + 2 * r * b4 a1 a3 a4 + r * r * b2 a1 a2 + 4 * r * r * r := by
  unfold b6 b4 b2 n3 n6
  grind
theorem b8_rel : 4 * b8 a1 a2 a3 a4 a6 = b2 a1 a2 * b6 a3 a6 - b4 a1 a3 a4 * b4 a1 a3 a4 := by
  unfold b8 b2 b4 b6
  grind
theorem dof4 {z2 z4 z6 z8 : Int} (h : 4 * z8 = z2 * z6 - z4 * z4) : 4 * dof z2 z4 z6 z8 = -z2 * z2 * (z2 * z6 - z4 * z4) - 32 * z4 * z4 * z4 - 108 * z6 * z6 + 36 * z2 * z4 * z6 := by
  unfold dof
  rw [← h]
  grind
theorem dsc_new : dsc (n1 a1 s) (n2 a1 a2 r s) (n3 a1 a3 r t) (n4 a1 a2 a3 a4 r s t) (n6 a1 a2 a3 a4 a6 r t) = dsc a1 a2 a3 a4 a6 := by
  have h1 := dof4 (b8_rel (a1 := n1 a1 s) (a2 := n2 a1 a2 r s) (a3 := n3 a1 a3 r t) (a4 := n4 a1 a2 a3 a4 r s t) (a6 := n6 a1 a2 a3 a4 a6 r t))
  have h2 := dof4 (b8_rel (a1 := a1) (a2 := a2) (a3 := a3) (a4 := a4) (a6 := a6))
  rw [b2_new, b4_new, b6_new] at h1
  have h3 : 4 * dsc (n1 a1 s) (n2 a1 a2 r s) (n3 a1 a3 r t) (n4 a1 a2 a3 a4 r s t) (n6 a1 a2 a3 a4 a6 r t) = 4 * dsc a1 a2 a3 a4 a6 := by
    unfold dsc
    rw [h2]
    rw [b2_new, b4_new, b6_new]
    rw [h1]
    generalize b2 a1 a2 = z2
    generalize b4 a1 a3 a4 = z4
    generalize b6 a3 a6 = z6
    grind
  omega
theorem sec_new : sec (n1 a1 s) (n2 a1 a2 r s) (n3 a1 a3 r t) (n4 a1 a2 a3 a4 r s t) = sec a1 a2 a3 a4 := by
  unfold sec
  rw [b2_new, b4_new]
  grind
theorem cnt_new (hp : 0 < p) : cnt p (n1 a1 s) (n2 a1 a2 r s) (n3 a1 a3 r t) (n4 a1 a2 a3 a4 r s t) (n6 a1 a2 a3 a4 a6 r t) = cnt p a1 a2 a3 a4 a6 := by
  unfold cnt
  have e : ∀ x : Int, sm p (fun y => ind (hol p (n1 a1 s) (n2 a1 a2 r s) (n3 a1 a3 r t) (n4 a1 a2 a3 a4 r s t) (n6 a1 a2 a3 a4 a6 r t) x y)) = sm p (fun y => ind (hol p a1 a2 a3 a4 a6 (x + r) y)) := fun x => by
    rw [← sm_shift hp (h := fun y => ind (hol p a1 a2 a3 a4 a6 (x + r) y)) (fun y z h => by
      show ind _ = ind _
      rw [hol_mo (Mo.refl _) (Mo.refl _) (Mo.refl _) (Mo.refl _) (Mo.refl _) (Mo.refl _) h]) (s * x + t)]
    refine sm_congr _ _ _ fun y _ => ?_
    unfold hol
    rw [cF_new]
  rw [show (fun x : Int => sm p fun y => ind (hol p (n1 a1 s) (n2 a1 a2 r s) (n3 a1 a3 r t) (n4 a1 a2 a3 a4 r s t) (n6 a1 a2 a3 a4 a6 r t) x y)) = fun x => (fun z => sm p fun y => ind (hol p a1 a2 a3 a4 a6 z y)) (x + r) from funext e]
  refine sm_shift hp (h := fun z => sm p fun y => ind (hol p a1 a2 a3 a4 a6 z y)) (fun y z h => sm_congr _ _ _ fun v _ => ?_) r
  rw [hol_mo (Mo.refl _) (Mo.refl _) (Mo.refl _) (Mo.refl _) (Mo.refl _) h (Mo.refl _)]
theorem sgl_new : sgl p (n1 a1 s) (n2 a1 a2 r s) (n3 a1 a3 r t) (n4 a1 a2 a3 a4 r s t) (n6 a1 a2 a3 a4 a6 r t) x y = sgl p a1 a2 a3 a4 a6 (x + r) (y + (s * x + t)) := by
  unfold sgl
  rw [cF_new, cY_new, cX_new]
  generalize cF a1 a2 a3 a4 a6 (x + r) (y + (s * x + t)) = f
  generalize ey : cY a1 a3 (x + r) (y + (s * x + t)) = g
  generalize cX a1 a2 a4 (x + r) (y + (s * x + t)) = k
  by_cases h : g % p = 0
  · have q : Mo p (k + s * g) k := by
      have q1 : Mo p g 0 := by
        unfold Mo
        rw [h]
        simp
      have := (Mo.refl (p := p) k).add ((Mo.refl s).mul q1)
      simpa using this
    rw [show (k + s * g) % p = k % p from q]
  · simp [h]
theorem sng_new (hp : 0 < p) : sng p (n1 a1 s) (n2 a1 a2 r s) (n3 a1 a3 r t) (n4 a1 a2 a3 a4 r s t) (n6 a1 a2 a3 a4 a6 r t) = sng p a1 a2 a3 a4 a6 := by
  unfold sng
  have e : ∀ x : Int, sm p (fun y => ind (sgl p (n1 a1 s) (n2 a1 a2 r s) (n3 a1 a3 r t) (n4 a1 a2 a3 a4 r s t) (n6 a1 a2 a3 a4 a6 r t) x y)) = sm p (fun y => ind (sgl p a1 a2 a3 a4 a6 (x + r) y)) := fun x => by
    rw [← sm_shift hp (h := fun y => ind (sgl p a1 a2 a3 a4 a6 (x + r) y)) (fun y z h => by
      show ind _ = ind _
      rw [sgl_mo (Mo.refl _) (Mo.refl _) (Mo.refl _) (Mo.refl _) (Mo.refl _) (Mo.refl _) h]) (s * x + t)]
    refine sm_congr _ _ _ fun y _ => ?_
    rw [sgl_new]
  rw [show (fun x : Int => sm p fun y => ind (sgl p (n1 a1 s) (n2 a1 a2 r s) (n3 a1 a3 r t) (n4 a1 a2 a3 a4 r s t) (n6 a1 a2 a3 a4 a6 r t) x y)) = fun x => (fun z => sm p fun y => ind (sgl p a1 a2 a3 a4 a6 z y)) (x + r) from funext e]
  refine sm_shift hp (h := fun z => sm p fun y => ind (sgl p a1 a2 a3 a4 a6 z y)) (fun y z h => sm_congr _ _ _ fun v _ => ?_) r
  rw [sgl_mo (Mo.refl _) (Mo.refl _) (Mo.refl _) (Mo.refl _) (Mo.refl _) h (Mo.refl _)]
theorem good_new (hp : 0 < p) (g : Good p (n1 a1 s) (n2 a1 a2 r s) (n3 a1 a3 r t) (n4 a1 a2 a3 a4 r s t) (n6 a1 a2 a3 a4 a6 r t)) : Good p a1 a2 a3 a4 a6 := by
  unfold Good at *
  rw [cnt_new hp, sng_new hp, dsc_new, sec_new] at g
  exact g
/-- from the short forms to all: i2 and i3 halve and third modulo p -/
theorem good_short (hp : 0 < p) (i2 i3 : Int) (h2 : (2 * i2) % p = 1 % p) (h3 : (3 * i3) % p = 1 % p) (h : ∀ A B : Nat, A < p → B < p → Good p 0 0 0 A B) (a1 a2 a3 a4 a6 : Int) : Good p a1 a2 a3 a4 a6 := by
  have m2 : Mo p (2 * i2) 1 := h2
  have m3 : Mo p (3 * i3) 1 := h3
  let s := -a1 * i2
  let r := (s * a1 + s * s - a2) * i3
  let t := -(a3 + r * a1) * i2
  refine good_new hp (s := s) (r := r) (t := t) ?_
  have z1 : Mo p (n1 a1 s) 0 := by
    have q : Mo p (a1 + -a1 * (2 * i2)) (a1 + -a1 * 1) := (Mo.refl a1).add ((Mo.refl (-a1)).mul m2)
    have e1 : n1 a1 s = a1 + -a1 * (2 * i2) := by
      show a1 + 2 * (-a1 * i2) = _
      grind
    have e2 : a1 + -a1 * 1 = 0 := by omega
    rw [e1, ← e2]
    exact q
  have z2 : Mo p (n2 a1 a2 r s) 0 := by
    have q : Mo p (a2 - s * a1 - s * s + (s * a1 + s * s - a2) * (3 * i3)) (a2 - s * a1 - s * s + (s * a1 + s * s - a2) * 1) := (Mo.refl _).add ((Mo.refl _).mul m3)
    have e1 : n2 a1 a2 r s = a2 - s * a1 - s * s + (s * a1 + s * s - a2) * (3 * i3) := by
      show a2 - s * a1 + 3 * ((s * a1 + s * s - a2) * i3) - s * s = _
      generalize s = s
      grind
    have e2 : a2 - s * a1 - s * s + (s * a1 + s * s - a2) * 1 = 0 := by
      generalize s * a1 = u
      generalize s * s = v
      omega
    rw [e1, ← e2]
    exact q
  have z3 : Mo p (n3 a1 a3 r t) 0 := by
    have q : Mo p ((a3 + r * a1) + -(a3 + r * a1) * (2 * i2)) ((a3 + r * a1) + -(a3 + r * a1) * 1) := (Mo.refl _).add ((Mo.refl _).mul m2)
    have e1 : n3 a1 a3 r t = (a3 + r * a1) + -(a3 + r * a1) * (2 * i2) := by
      show a3 + r * a1 + 2 * (-(a3 + r * a1) * i2) = _
      generalize a3 + r * a1 = u
      grind
    have e2 : (a3 + r * a1) + -(a3 + r * a1) * 1 = 0 := by omega
    rw [e1, ← e2]
    exact q
  have np : (0 : Int) < p := by omega
  have nn : ∀ z : Int, ∃ A : Nat, A < p ∧ Mo p z (A : Int) := fun z => ⟨(z % p).toNat, by
    have h1 := Int.emod_nonneg z (b := p) (by omega)
    have h2 := Int.emod_lt_of_pos z np
    omega, by
    rw [Int.toNat_of_nonneg (Int.emod_nonneg z (b := p) (by omega))]
    exact Mo.md.symm⟩
  obtain ⟨A, hA, eA⟩ := nn (n4 a1 a2 a3 a4 r s t)
  obtain ⟨B, hB, eB⟩ := nn (n6 a1 a2 a3 a4 a6 r t)
  exact good_mo z1 z2 z3 eA eB (h A B hA hB)
end
/-! ### the finite part: by tables of square roots -/
def smN : Nat → (Nat → Nat) → Nat
  | 0, _ => 0
  | n + 1, h => smN n h + h n
def anN : Nat → (Nat → Bool) → Bool
  | 0, _ => false
  | n + 1, h => anN n h || h n
def alN : Nat → (Nat → Bool) → Bool
  | 0, _ => true
  | n + 1, h => h n && alN n h
theorem alN_at : ∀ {n : Nat} {h : Nat → Bool}, alN n h = true → ∀ x, x < n → h x = true
  | 0, _, _, x, hx => absurd hx (Nat.not_lt_zero x)
  | n + 1, h, e, x, hx => by
    unfold alN at e
    rw [Bool.and_eq_true] at e
    by_cases z : x = n
    · rw [z]
      exact e.1
    · exact alN_at e.2 x (by omega)
theorem anN_iff : ∀ {n : Nat} {h : Nat → Bool}, anN n h = true ↔ ∃ x, x < n ∧ h x = true
  | 0, h => by simp [anN]
  | n + 1, h => by
    unfold anN
    rw [Bool.or_eq_true, anN_iff]
    constructor
    · rintro (⟨x, h1, h2⟩ | h1)
      · exact ⟨x, by omega, h2⟩
      · exact ⟨n, by omega, h1⟩
    · rintro ⟨x, h1, h2⟩
      by_cases z : x = n
      · rw [z] at h2
        exact .inr h2
      · exact .inl ⟨x, by omega, h2⟩
theorem sm_cast : ∀ (n : Nat) (h : Int → Int) (k : Nat → Nat), (∀ x : Nat, x < n → h x = (k x : Int)) → sm n h = (smN n k : Int)
  | 0, _, _, _ => rfl
  | n + 1, h, k, e => by
    unfold sm smN
    rw [sm_cast n h k fun x hx => e x (by omega), e n (by omega)]
    omega
/-- how many square roots, by a table of two bits each -/
def rt (T f : Nat) : Nat := (T >>> (2 * f)) % 4
def rtB (p f : Nat) : Nat := smN p fun y => if (y * y) % p = f then 1 else 0
def tabOk (p T : Nat) : Bool := alN p fun f => rtB p f == rt T f
def fv (p A B x : Nat) : Nat := (x * x * x + A * x + B) % p
def chk (p T A B : Nat) : Bool :=
  let M := smN p fun x => rt T (fv p A B x)
  let S := anN p fun x => fv p A B x == 0 && (3 * x * x + A) % p == 0
  let D := (64 * A * A * A + 432 * B * B) % p == 0
  let N := (48 * A) % p == 0
  (S == D) && (if D = true then (if N = true then M == p else M == p + 1 || M + 1 == p) else decide ((M - p) * (M - p) + (p - M) * (p - M) ≤ 4 * p))
def chkAll (p T : Nat) : Bool := alN p fun A => alN p fun B => chk p T A B
section
variable {p T A B : Nat}
theorem cast_mod {m n : Nat} {z : Int} (e : z = (m : Int) - (n : Int)) : z % p = 0 ↔ m % p = n % p := by
  rw [e, ← Int.emod_eq_emod_iff_emod_sub_eq_zero]
  omega
theorem sm_nn : ∀ (n : Nat) (h : Int → Int), (∀ x, 0 ≤ h x) → 0 ≤ sm n h ∧ (sm n h ≠ 0 ↔ ∃ x : Nat, x < n ∧ h x ≠ 0)
  | 0, h, _ => ⟨Int.le_refl 0, ⟨fun z => absurd rfl z, fun ⟨x, hx, _⟩ => absurd hx (Nat.not_lt_zero x)⟩⟩
  | n + 1, h, k => by
    obtain ⟨h1, h2⟩ := sm_nn n h k
    have hn := k n
    unfold sm
    refine ⟨by omega, ⟨fun z => ?_, fun ⟨x, hx, hz⟩ => ?_⟩⟩
    · by_cases q : h n = 0
      · obtain ⟨x, a, b⟩ := h2.mp (by omega)
        exact ⟨x, by omega, b⟩
      · exact ⟨n, by omega, q⟩
    · by_cases q : x = n
      · rw [q] at hz
        omega
      · have := h2.mpr ⟨x, by omega, hz⟩
        omega
theorem ind_nn (b : Bool) : 0 ≤ ind b := by
  unfold ind
  split <;> omega
theorem ind_ne {b : Bool} : ind b ≠ 0 ↔ b = true := by
  unfold ind
  cases b <;> simp
theorem sng_iff {a1 a2 a3 a4 a6 : Int} : sng p a1 a2 a3 a4 a6 ≠ 0 ↔ ∃ x : Nat, x < p ∧ ∃ y : Nat, y < p ∧ sgl p a1 a2 a3 a4 a6 x y = true := by
  unfold sng
  rw [(sm_nn p _ fun x => (sm_nn p _ fun y => ind_nn _).1).2]
  constructor
  · rintro ⟨x, hx, h⟩
    obtain ⟨y, hy, q⟩ := (sm_nn p _ fun y => ind_nn _).2.mp h
    exact ⟨x, hx, y, hy, ind_ne.mp q⟩
  · rintro ⟨x, hx, y, hy, q⟩
    exact ⟨x, hx, (sm_nn p _ fun y => ind_nn _).2.mpr ⟨y, hy, ind_ne.mpr q⟩⟩
theorem cF_short (x y : Nat) : cF 0 0 0 A B x y % p = 0 ↔ (y * y) % p = fv p A B x := by
  unfold fv
  refine cast_mod ?_
  unfold cF
  simp only [Int.natCast_add, Int.natCast_mul]
  grind
theorem cX_short (x y : Nat) : cX 0 0 A x y % p = 0 ↔ (3 * x * x + A) % p = 0 := by
  have e : cX 0 0 A x y = ((0 : Nat) : Int) - ((3 * x * x + A : Nat) : Int) := by
    unfold cX
    simp only [Int.natCast_add, Int.natCast_mul]
    grind
  rw [cast_mod e]
  simp
  omega
theorem cY_short (x y : Nat) : cY 0 0 x y % p = 0 ↔ (2 * y) % p = 0 := by
  have e : cY 0 0 x y = ((2 * y : Nat) : Int) - ((0 : Nat) : Int) := by
    unfold cY
    simp only [Int.natCast_mul]
    grind
  rw [cast_mod e]
  simp
theorem dsc_short : dsc 0 0 0 A B % p = 0 ↔ (64 * A * A * A + 432 * B * B) % p = 0 := by
  have e : dsc 0 0 0 A B = ((0 : Nat) : Int) - ((64 * A * A * A + 432 * B * B : Nat) : Int) := by
    unfold dsc dof b2 b4 b6 b8
    simp only [Int.natCast_add, Int.natCast_mul]
    grind
  rw [cast_mod e]
  simp
  omega
theorem sec_short : sec 0 0 0 A % p = 0 ↔ (48 * A) % p = 0 := by
  have e : sec 0 0 0 A = ((0 : Nat) : Int) - ((48 * A : Nat) : Int) := by
    unfold sec b2 b4
    simp only [Int.natCast_mul]
    grind
  rw [cast_mod e]
  simp
  omega
theorem cnt_short (hp : 0 < p) (ht : tabOk p T = true) : cnt p 0 0 0 A B = (smN p (fun x => rt T (fv p A B x)) : Int) := by
  unfold cnt
  refine sm_cast _ _ _ fun x hx => ?_
  have hf : fv p A B x < p := Nat.mod_lt _ hp
  have h1 := alN_at ht _ hf
  rw [← of_decide_eq_true (by simpa using h1 : decide (rtB p (fv p A B x) = rt T (fv p A B x)) = true)]
  unfold rtB
  refine sm_cast _ _ _ fun y hy => ?_
  unfold ind hol
  by_cases h : (y * y) % p = fv p A B x
  · rw [if_pos (decide_eq_true ((cF_short x y).mpr h)), if_pos h]
    rfl
  · rw [if_neg (fun z => h ((cF_short x y).mp (of_decide_eq_true z))), if_neg h]
    rfl
theorem sng_short (hp : 0 < p) (h2 : p % 2 = 1) : sng p 0 0 0 A B ≠ 0 ↔ anN p (fun x => fv p A B x == 0 && (3 * x * x + A) % p == 0) = true := by
  rw [sng_iff, anN_iff]
  constructor
  · rintro ⟨x, hx, y, hy, q⟩
    unfold sgl at q
    simp only [Bool.and_eq_true, decide_eq_true_eq] at q
    obtain ⟨q1, q2, q3⟩ := q
    have y0 : y = 0 := by
      have z := (cY_short x y).mp q2
      have d : p ∣ 2 * y := Nat.dvd_of_mod_eq_zero z
      obtain ⟨k, hk⟩ := d
      have : k = 0 ∨ k = 1 ∨ 2 ≤ k := by omega
      rcases this with k0 | k1 | k2
      · rw [k0] at hk
        omega
      · rw [k1] at hk
        omega
      · have : p * 2 ≤ p * k := Nat.mul_le_mul_left p k2
        omega
    refine ⟨x, hx, ?_⟩
    have f0 := (cF_short x y).mp q1
    rw [y0] at f0
    have f1 : fv p A B x = 0 := by
      rw [← f0]
      simp
    simp [f1, (cX_short x y).mp q3]
  · rintro ⟨x, hx, q⟩
    rw [Bool.and_eq_true, beq_iff_eq, beq_iff_eq] at q
    refine ⟨x, hx, 0, hp, ?_⟩
    unfold sgl
    simp only [Bool.and_eq_true, decide_eq_true_eq]
    exact ⟨(cF_short x 0).mpr (by rw [q.1]; simp), (cY_short x 0).mpr (by simp), (cX_short x 0).mpr q.2⟩
theorem good_chk (hp : 0 < p) (h2 : p % 2 = 1) (ht : tabOk p T = true) (h : chk p T A B = true) : Good p 0 0 0 A B := by
  unfold Good
  rw [cnt_short hp ht, sng_short hp h2, dsc_short, sec_short]
  unfold chk at h
  generalize smN p (fun x => rt T (fv p A B x)) = M at h ⊢
  generalize anN p (fun x => fv p A B x == 0 && (3 * x * x + A) % p == 0) = S at h ⊢
  simp only [Bool.and_eq_true] at h
  obtain ⟨h1, h3⟩ := h
  have e1 : S = true ↔ (64 * A * A * A + 432 * B * B) % p = 0 := by
    rw [beq_iff_eq.mp h1]
    simp
  by_cases d : (64 * A * A * A + 432 * B * B) % p = 0
  · rw [if_pos (by simpa using d)] at h3
    refine ⟨e1, fun z => absurd (dsc_short.mpr d) z, fun _ n => ?_, fun _ n => ?_⟩
    · rw [if_pos (by simpa using n)] at h3
      have := beq_iff_eq.mp h3
      omega
    · rw [if_neg (by simpa using fun q => n (sec_short.mpr q))] at h3
      simp only [Bool.or_eq_true, beq_iff_eq] at h3
      omega
  · rw [if_neg (by simpa using d)] at h3
    have h4 := of_decide_eq_true h3
    refine ⟨e1, fun _ => ?_, fun z => absurd z d, fun z => absurd z d⟩
    by_cases c : M ≤ p
    · obtain ⟨k, hk⟩ : ∃ k, p = M + k := ⟨p - M, by omega⟩
      have e2 : M - p = 0 := by omega
      have e3 : p - M = k := by omega
      rw [e2, e3] at h4
      have e4 : ((p : Int) - M) = k := by omega
      rw [e4]
      have : ((k * k : Nat) : Int) ≤ ((4 * p : Nat) : Int) := by omega
      simpa using this
    · obtain ⟨k, hk⟩ : ∃ k, M = p + k := ⟨M - p, by omega⟩
      have e2 : M - p = k := by omega
      have e3 : p - M = 0 := by omega
      rw [e2, e3] at h4
      have e4 : ((p : Int) - M) = -(k : Int) := by omega
      rw [e4]
      have : ((k * k : Nat) : Int) ≤ ((4 * p : Nat) : Int) := by omega
      have e5 : (-(k : Int)) * (-(k : Int)) = k * k := by grind
      rw [e5]
      simpa using this
theorem good_all (hp : 0 < p) (h2 : p % 2 = 1) (i2 i3 : Int) (k2 : (2 * i2) % p = 1 % p) (k3 : (3 * i3) % p = 1 % p) (T : Nat) (ht : tabOk p T = true) (hc : chkAll p T = true) (a1 a2 a3 a4 a6 : Int) : Good p a1 a2 a3 a4 a6 :=
  good_short hp i2 i3 k2 k3 (fun A B hA hB => good_chk hp h2 ht (alN_at (alN_at hc A hA) B hB)) a1 a2 a3 a4 a6
end
theorem good5 : ∀ a1 a2 a3 a4 a6 : Int, Good 5 a1 a2 a3 a4 a6 := good_all (by decide) (by decide) 3 2 (by decide) (by decide) 521 (by decide +kernel) (by decide +kernel)
theorem good7 : ∀ a1 a2 a3 a4 a6 : Int, Good 7 a1 a2 a3 a4 a6 := good_all (by decide) (by decide) 4 5 (by decide) (by decide) 553 (by decide +kernel) (by decide +kernel)
theorem good11 : ∀ a1 a2 a3 a4 a6 : Int, Good 11 a1 a2 a3 a4 a6 := good_all (by decide) (by decide) 6 4 (by decide) (by decide) 526985 (by decide +kernel) (by decide +kernel)
theorem good13 : ∀ a1 a2 a3 a4 a6 : Int, Good 13 a1 a2 a3 a4 a6 := good_all (by decide) (by decide) 7 9 (by decide) (by decide) 36176521 (by decide +kernel) (by decide +kernel)
theorem good17 : ∀ a1 a2 a3 a4 a6 : Int, Good 17 a1 a2 a3 a4 a6 := good_all (by decide) (by decide) 9 6 (by decide) (by decide) 10872291881 (by decide +kernel) (by decide +kernel)
theorem good19 : ∀ a1 a2 a3 a4 a6 : Int, Good 19 a1 a2 a3 a4 a6 := good_all (by decide) (by decide) 10 13 (by decide) (by decide) 42958629385 (by decide +kernel) (by decide +kernel)
theorem good23 : ∀ a1 a2 a3 a4 a6 : Int, Good 23 a1 a2 a3 a4 a6 := good_all (by decide) (by decide) 12 8 (by decide) (by decide) 146197324457 (by decide +kernel) (by decide +kernel)
theorem good29 : ∀ a1 a2 a3 a4 a6 : Int, Good 29 a1 a2 a3 a4 a6 := good_all (by decide) (by decide) 15 10 (by decide) (by decide) 147108067451382281 (by decide +kernel) (by decide +kernel)
theorem good31 : ∀ a1 a2 a3 a4 a6 : Int, Good 31 a1 a2 a3 a4 a6 := good_all (by decide) (by decide) 16 21 (by decide) (by decide) 146369883237157417 (by decide +kernel) (by decide +kernel)
theorem good37 : ∀ a1 a2 a3 a4 a6 : Int, Good 37 a1 a2 a3 a4 a6 := good_all (by decide) (by decide) 19 25 (by decide) (by decide) 10185099983485776986761 (by decide +kernel) (by decide +kernel)
/-! ### 2 and 3, by all residues -/
def goodB (p : Nat) (a1 a2 a3 a4 a6 : Int) : Bool :=
  let C := cnt p a1 a2 a3 a4 a6
  let D := decide (dsc a1 a2 a3 a4 a6 % p = 0)
  ((!decide (sng p a1 a2 a3 a4 a6 = 0)) == D) && (if D = true then (if sec a1 a2 a3 a4 % p = 0 then decide (C = p) else decide (C = p + 1) || decide (C + 1 = p)) else decide ((p - C) * (p - C) ≤ 4 * p))
theorem goodB_ok {p : Nat} {a1 a2 a3 a4 a6 : Int} (h : goodB p a1 a2 a3 a4 a6 = true) : Good p a1 a2 a3 a4 a6 := by
  unfold goodB at h
  unfold Good
  simp only [Bool.and_eq_true] at h
  obtain ⟨h1, h3⟩ := h
  have e1 := beq_iff_eq.mp h1
  by_cases d : dsc a1 a2 a3 a4 a6 % p = 0
  · rw [if_pos (decide_eq_true d)] at h3
    rw [decide_eq_true d] at e1
    refine ⟨⟨fun _ => d, fun _ z => by simp [z] at e1⟩, fun z => absurd d z, fun _ n => ?_, fun _ n => ?_⟩
    · rw [if_pos n] at h3
      exact of_decide_eq_true h3
    · rw [if_neg n] at h3
      simpa using h3
  · rw [if_neg (by simpa using d)] at h3
    rw [decide_eq_false d] at e1
    exact ⟨⟨fun z => by simp [z] at e1, fun z => absurd z d⟩, fun _ => of_decide_eq_true h3, fun z => absurd z d, fun z => absurd z d⟩
def allB (p : Nat) : Bool := alN p fun a => alN p fun b => alN p fun c => alN p fun d => alN p fun e => goodB p a b c d e
theorem good_res {p : Nat} (hp : 0 < p) (h : allB p = true) (a1 a2 a3 a4 a6 : Int) : Good p a1 a2 a3 a4 a6 := by
  have nn : ∀ z : Int, ∃ A : Nat, A < p ∧ Mo p z (A : Int) := fun z => ⟨(z % p).toNat, by
    have h1 := Int.emod_nonneg z (b := p) (by omega)
    have h2 := Int.emod_lt_of_pos z (b := p) (by omega)
    omega, by
    rw [Int.toNat_of_nonneg (Int.emod_nonneg z (b := p) (by omega))]
    exact Mo.md.symm⟩
  obtain ⟨b1, k1, e1⟩ := nn a1
  obtain ⟨b2, k2, e2⟩ := nn a2
  obtain ⟨b3, k3, e3⟩ := nn a3
  obtain ⟨b4, k4, e4⟩ := nn a4
  obtain ⟨b6, k6, e6⟩ := nn a6
  exact good_mo e1 e2 e3 e4 e6 (goodB_ok (alN_at (alN_at (alN_at (alN_at (alN_at h _ k1) _ k2) _ k3) _ k4) _ k6))
theorem good2 : ∀ a1 a2 a3 a4 a6 : Int, Good 2 a1 a2 a3 a4 a6 := good_res (by decide) (by decide +kernel)
theorem good3 : ∀ a1 a2 a3 a4 a6 : Int, Good 3 a1 a2 a3 a4 a6 := good_res (by decide) (by decide +kernel)
end K74

/-! k74: what the mirrors compute. -/
namespace K74
open PySem PySem.Spec PyProof.Rows L2 Dx
/-! ### bounds -/
structure Bd (n : Nat) (i : Int) : Prop where
  le : i.natAbs ≤ n
theorem Bd.mul {n m : Nat} {i j : Int} (h : Bd n i) (k : Bd m j) : Bd (n * m) (i * j) := ⟨by rw [Int.natAbs_mul]; exact Nat.mul_le_mul h.le k.le⟩
theorem Bd.add {n m : Nat} {i j : Int} (h : Bd n i) (k : Bd m j) : Bd (n + m) (i + j) := ⟨Nat.le_trans (Int.natAbs_add_le i j) (Nat.add_le_add h.le k.le)⟩
theorem Bd.sub {n m : Nat} {i j : Int} (h : Bd n i) (k : Bd m j) : Bd (n + m) (i - j) := ⟨by have := h.le; have := k.le; omega⟩
theorem Bd.neg {n : Nat} {i : Int} (h : Bd n i) : Bd n (-i) := ⟨by have := h.le; omega⟩
theorem Bd.c (i : Int) : Bd i.natAbs i := ⟨Nat.le_refl _⟩
theorem bits_le {i : Int} (h : i.natAbs < 2 ^ 64) : ¬ Builtin.Int.intBits i > 64 := by
  unfold Builtin.Int.intBits
  split
  · omega
  · rename_i z
    have z' : i.natAbs ≠ 0 := fun q => z (by simp [Int.natAbs_eq_zero.mp q])
    have := (Nat.log2_lt z').mpr h
    omega
theorem mulOk_bd {n : Nat} {i j : Int} (h : Bd n i) (hn : n < 2 ^ 64) : mulOkB i j = true := by
  unfold mulOkB
  rw [decide_eq_false (bits_le (Nat.lt_of_le_of_lt h.le hn))]
  rfl
theorem mul_ok {i j : Int} (h : mulOkB i j = true) : mulD (.int i) (.int j) = some (.int (i * j)) := by
  exact if_pos h
theorem mod_ok {i j : Int} (h : 0 < j) : modD (.int i) (.int j) = some (.int (i % j)) := by
  exact if_pos h
theorem eqI (i j : Int) : eqD (.int i) (.int j) = some (.bl (decide (i = j))) := by
  show some (D.bl (i == j)) = _
  rw [show (i == j) = decide (i = j) from rfl]
theorem addI (i j : Int) : addD (.int i) (.int j) = some (.int (i + j)) := rfl
theorem subI (i j : Int) : subD (.int i) (.int j) = some (.int (i - j)) := rfl
theorem negI (i : Int) : negD (.int i) = some (.int (-i)) := rfl
theorem neI (i j : Int) : neD (.int i) (.int j) = some (.bl (!decide (i = j))) := rfl
theorem leI (i j : Int) : leD (.int i) (.int j) = some (.bl (decide (i ≤ j))) := rfl
theorem ltI (i j : Int) : ltD (.int i) (.int j) = some (.bl (decide (i < j))) := rfl
abbrev P5 (a1 a2 a3 a4 a6 : Int) : D := .tup [.int a1, .int a2, .int a3, .int a4, .int a6]
theorem ev_holds {a1 a2 a3 a4 a6 p x y : Int} (g : G) (hp : 0 < p) (h1 : Bd 1000 a1) (h2 : Bd 1000 a2) (h3 : Bd 1000 a3) (h4 : Bd 1000 a4) (hx : Bd 100 x) (hy : Bd 100 y) :
    m__law_hc_holds [P5 a1 a2 a3 a4 a6, .int p, .int x, .int y] g = .ok (.v (.bl (decide (cF a1 a2 a3 a4 a6 x y % p = 0)))) g := by
  show (b__law_hc_holds ⟨[.v (P5 a1 a2 a3 a4 a6), .v (.int p), .v (.int x), .v (.int y), .un, .un, .un, .un, .un, .un, .un], g⟩).fr = _
  unfold b__law_hc_holds
  simp (disch := (apply mulOk_bd; (focus (repeat (first | assumption | apply Bd.mul | apply Bd.add | apply Bd.sub | apply Bd.neg | exact Bd.c _))); decide)) only [mod_ok hp, zSeq, zAsg, sVar, gTupD, gsCons, gSet, gsNil, optF, Option.bind_some, LSt.put, Res.toFl, Fl.seq, sBin, sUn, Res.bind, opt, mul_ok, addI, subI, negI, zSet, zRet, zRetN, zNext, zDrop, Fl.fr, eqI, neI, leI, ltI, sC, sTst, blD, sTru, truD, sNot, sAnd, sOr, sIf, zIf, sCons, sNil, sTup, sLst, sFrz, sBlt, sCall, sMth, frRes, LSt.withG, EV.d, CO.d, sAttr, fldD, sAndV, notD, sChain, zPar, zPar3, zAug, i2, lenD, absD, Dx.intD, tupD,
    Bool.not_true, Bool.not_false, Bool.false_eq_true, List.getElem?_cons_zero, List.getElem?_cons_succ, List.set_cons_zero, List.set_cons_succ, List.length_cons, List.length_nil, Nat.reduceAdd, reduceIte]
  rfl
/-! ### loops over ranges -/
theorem for_any {t : Tgt} {b : LSt → Fl} {Inv : Nat → LSt → Prop} : ∀ (m k : Nat) (l : LSt), Inv k l → (∀ i l, k ≤ i → i < k + m → Inv i l → ∃ l1 l2, t (.int (0 + (i : Int))) l = some l1 ∧ b l1 = .nx l2 ∧ Inv (i + 1) l2) →
    ∃ l2, zFor t b ((List.range' k m).map fun i : Nat => D.int (0 + (i : Int))) l = .nx l2 ∧ Inv (k + m) l2
  | 0, k, l, h, _ => ⟨l, rfl, h⟩
  | m + 1, k, l, h, st => by
    obtain ⟨l1, l2, e1, e2, h2⟩ := st k l (Nat.le_refl _) (by omega) h
    obtain ⟨l3, e3, h3⟩ := for_any (t := t) (b := b) (Inv := Inv) m (k + 1) l2 h2 fun i l a c => st i l (by omega) (by omega)
    refine ⟨l3, ?_, by rw [show k + (m + 1) = k + 1 + m by omega]; exact h3⟩
    rw [List.range'_succ, List.map_cons]
    unfold zFor
    simp only [e1, e2]
    exact e3
theorem for_range {t : Tgt} {b : LSt → Fl} {Inv : Nat → LSt → Prop} (n : Nat) (l : LSt) (h : Inv 0 l) (st : ∀ (i : Nat) l, i < n → Inv i l → ∃ l1 l2, t (.int (0 + (i : Int))) l = some l1 ∧ b l1 = .nx l2 ∧ Inv (i + 1) l2) :
    ∃ l2, zFor t b (rangeD 0 n) l = .nx l2 ∧ Inv n l2 := by
  obtain ⟨l2, e, q⟩ := for_any (t := t) (b := b) (Inv := Inv) n 0 l h fun i l _ c => st i l (by omega)
  refine ⟨l2, ?_, by rw [Nat.zero_add] at q; exact q⟩
  unfold rangeD
  rw [List.range_eq_range']
  exact e
theorem comp_filter {j : Nat} {tt : LSt → Res Bool} {l : LSt} (B : D → Bool) (un : l.sl[j]? = some .un) : ∀ (ds acc : List D), acc.length + ds.length ≤ szL → (∀ d, d ∈ ds → tt (l.put j (.v d)) = .ok (B d) (l.put j (.v d))) →
    compLoop (gSet j) tt (sVar j) [j] ds acc l = .ok (.lst (acc ++ ds.filter B)) l
  | [], acc, _, _ => by
    simp [compLoop]
  | d :: ds, acc, hl, h => by
    have hj : j < l.sl.length := (List.getElem?_eq_some_iff.mp un).1
    have back : (l.put j (.v d)).wipeL [j] = l := by
      show LSt.mk ((l.sl.set j (.v d)).set j .un) l.g = l
      rw [List.set_set]
      congr 1
      apply List.ext_getElem?
      intro k
      by_cases hk : k = j
      · rw [hk, List.getElem?_set_self hj, un]
      · rw [List.getElem?_set_ne (Ne.symm hk)]
    have sv : sVar j (l.put j (.v d)) = .ok d (l.put j (.v d)) := by
      unfold sVar
      rw [show (l.put j (.v d)).sl[j]? = some (.v d) from List.getElem?_set_self hj]
    rw [List.length_cons] at hl
    have ih := fun acc' q => comp_filter (j := j) (tt := tt) (l := l) B un ds acc' q fun d hd => h d (List.mem_cons_of_mem _ hd)
    unfold compLoop
    simp only [gSet, h d (List.mem_cons_self ..)]
    cases e : B d with
    | true =>
      simp only [sv]
      rw [if_pos (by omega), back, ih _ (by rw [List.length_append, List.length_singleton]; omega), List.filter_cons_of_pos e, List.append_assoc]
      rfl
    | false =>
      simp only []
      rw [back, ih _ (by omega), List.filter_cons_of_neg (by rw [e]; decide)]
theorem filt_len (B : D → Bool) (f : Int → Bool) : ∀ (n : Nat), (∀ i : Nat, i < n → B (.int (0 + (i : Int))) = f i) → (((rangeD 0 n).filter B).length : Int) = sm n fun x => ind (f x)
  | 0, _ => rfl
  | n + 1, h => by
    unfold rangeD
    rw [List.range_succ, List.map_append, List.filter_append, List.length_append]
    have e : ((List.filter B (List.map (fun i : Nat => D.int (0 + (i : Int))) [n])).length : Int) = ind (f n) := by
      rw [← h n (by omega), List.map_singleton]
      unfold ind
      cases e : B (.int (0 + (n : Int))) with
      | true =>
        rw [List.filter_cons_of_pos e]
        rfl
      | false =>
        rw [List.filter_cons_of_neg (by rw [e]; decide)]
        rfl
    have ih := filt_len B f n fun i hi => h i (by omega)
    unfold rangeD at ih
    show _ = sm n (fun x => ind (f x)) + ind (f n)
    rw [← ih, ← e]
    omega
theorem rng_ok {p : Nat} (hp : p < 100) : rng1D [.int (p : Int)] = some (rangeD 0 p) := by
  have h1 : (p : Int).natAbs < 2 ^ 61 := by omega
  simp only [rng1D, h1, if_true, Int.toNat_natCast]
theorem bind_ok {α β : Type} (a : α) (l : LSt) (k : α → LSt → Res β) : (Res.ok a l).bind k = k a l := (rfl)
theorem opt_some {α : Type} (a : α) (l : LSt) : opt (some a) l = .ok a l := (rfl)
theorem walk1 {l : LSt} {i p : Nat} (hp2 : p < 100) (h : l.sl[i]? = some (.v (.int (p : Int)))) : sWalk rng1D (sCons (sVar i) sNil) l = .ok (rangeD 0 p) l := by
  have e : sCons (sVar i) sNil l = .ok [.int (p : Int)] l := by
    unfold sCons sVar
    rw [h]
    rfl
  unfold sWalk
  rw [e, bind_ok, rng_ok hp2, opt_some]
theorem mem_range {n : Nat} {d : D} (h : d ∈ rangeD 0 n) : ∃ i : Nat, i < n ∧ d = .int (0 + (i : Int)) := by
  unfold rangeD at h
  obtain ⟨i, h1, h2⟩ := List.mem_map.mp h
  exact ⟨i, List.mem_range.mp h1, h2.symm⟩
theorem szL_big {n : Nat} (h : n < 100) : 0 + n ≤ szL := by
  have : (100 : Nat) ≤ szL := by decide
  omega
theorem rangeD_len (n : Nat) : (rangeD 0 n).length = n := by
  unfold rangeD
  rw [List.length_map, List.length_range]
def bI (f : Int → Bool) : D → Bool
  | .int i => f i
  | _ => false
theorem bd_small {i : Nat} {p : Nat} (h : i < p) (hp : p < 100) : Bd 100 (0 + (i : Int)) := ⟨by omega⟩
section
variable {a1 a2 a3 a4 a6 : Int} {p : Nat} (g : G) (hp : 0 < p) (hp2 : p < 100) (h1 : Bd 1000 a1) (h2 : Bd 1000 a2) (h3 : Bd 1000 a3) (h4 : Bd 1000 a4) (h6 : Bd 1000 a6)
include hp hp2 h1 h2 h3 h4
theorem tr_cf {i : Nat} (hi : i < p) (z : D) : compLoop (gSet 4) (sTru (sCall m__law_hc_holds (sCons (sVar 0) (sCons (sVar 1) (sCons (sVar 3) (sCons (sVar 4) sNil)))))) (sVar 4) [4] (rangeD 0 p) [] ⟨[.v (P5 a1 a2 a3 a4 a6), .v (.int p), .v z, .v (.int (0 + (i : Int))), .un], g⟩ =
    .ok (.lst ([] ++ (rangeD 0 p).filter (bI fun y => hol p a1 a2 a3 a4 a6 (0 + (i : Int)) y))) ⟨[.v (P5 a1 a2 a3 a4 a6), .v (.int p), .v z, .v (.int (0 + (i : Int))), .un], g⟩ := by
  refine comp_filter (bI fun y => hol p a1 a2 a3 a4 a6 (0 + (i : Int)) y) rfl (rangeD 0 p) [] (by rw [rangeD_len]; exact szL_big hp2) (fun d hd => ?_)
  obtain ⟨y, hy, rfl⟩ := mem_range hd
  have e := ev_holds (a6 := a6) g (p := p) (by omega) h1 h2 h3 h4 (bd_small hi hp2) (bd_small hy hp2)
  simp only [e, zSeq, zAsg, sVar, gTupD, gsCons, gSet, gsNil, optF, Option.bind_some, LSt.put, Res.toFl, Fl.seq, sBin, sUn, Res.bind, opt, mul_ok, addI, subI, negI, zSet, zRet, zRetN, zNext, zDrop, Fl.fr, eqI, neI, leI, ltI, sC, sTst, blD, sTru, truD, sNot, sAnd, sOr, sIf, zIf, sCons, sNil, sTup, sLst, sFrz, sBlt, sCall, sMth, frRes, LSt.withG, EV.d, CO.d, sAttr, fldD, sAndV, notD, sChain, zPar, zPar3, zAug, i2, lenD, absD, Dx.intD, tupD,
    Bool.not_true, Bool.not_false, Bool.false_eq_true, List.getElem?_cons_zero, List.getElem?_cons_succ, List.set_cons_zero, List.set_cons_succ, List.length_cons, List.length_nil, Nat.reduceAdd, reduceIte]
  rfl
omit hp h1 h2 h3 h4
theorem tr_fl {i : Nat} : ((([] ++ (rangeD 0 p).filter (bI fun y => hol p a1 a2 a3 a4 a6 (0 + (i : Int)) y))).length : Int) = sm p fun y => ind (hol p a1 a2 a3 a4 a6 i y) := by
  rw [List.nil_append, filt_len (bI fun y => hol p a1 a2 a3 a4 a6 (0 + (i : Int)) y) (fun y => hol p a1 a2 a3 a4 a6 (0 + (i : Int)) y) p (fun y _ => by
        show hol p a1 a2 a3 a4 a6 (0 + (i : Int)) (0 + (y : Int)) = _
        rw [Int.zero_add (y : Int)]), Int.zero_add]
include hp h1 h2 h3 h4
theorem ev_trace : m__law_hc_trace [P5 a1 a2 a3 a4 a6, .int p] g = .ok (.v (.int (p - cnt p a1 a2 a3 a4 a6))) g := by
  show (b__law_hc_trace ⟨[.v (P5 a1 a2 a3 a4 a6), .v (.int p), .un, .un, .un], g⟩).fr = _
  have loop := for_range (t := gSet 3) (b := zSet 2 (sBin addD (sVar 2) (sBlt lenD (sCons (sFrz (sComp (sWalk rng1D (sCons (sVar 1) sNil)) (gSet 4) (sTru (sCall m__law_hc_holds (sCons (sVar 0) (sCons (sVar 1) (sCons (sVar 3) (sCons (sVar 4) sNil)))))) (sVar 4) [4])) sNil))))
    (Inv := fun i l => ∃ s, l = ⟨[.v (P5 a1 a2 a3 a4 a6), .v (.int p), .v (.int (sm i fun x => sm p fun y => ind (hol p a1 a2 a3 a4 a6 x y))), s, .un], g⟩) p ⟨[.v (P5 a1 a2 a3 a4 a6), .v (.int p), .v (.int 0), .un, .un], g⟩ ⟨.un, rfl⟩ (fun i l hi ⟨s, e⟩ => by
      subst e
      refine ⟨_, _, rfl, ?_, .v (.int (0 + (i : Int))), rfl⟩
      have cf := tr_cf g hp hp2 h1 h2 h3 h4 (a6 := a6) hi (.int (sm i fun x => sm p fun y => ind (hol p a1 a2 a3 a4 a6 x y)))
      have hw := walk1 hp2 (i := 1) (l := ⟨[.v (P5 a1 a2 a3 a4 a6), .v (.int p), .v (.int (sm i fun x => sm p fun y => ind (hol p a1 a2 a3 a4 a6 x y))), .v (.int (0 + (i : Int))), .un], g⟩) rfl
      simp only [sComp, hw, LSt.wipeL, cf, zSeq, zAsg, sVar, gTupD, gsCons, gSet, gsNil, optF, Option.bind_some, LSt.put, Res.toFl, Fl.seq, sBin, sUn, Res.bind, opt, mul_ok, addI, subI, negI, zSet, zRet, zRetN, zNext, zDrop, Fl.fr, eqI, neI, leI, ltI, sC, sTst, blD, sTru, truD, sNot, sAnd, sOr, sIf, zIf, sCons, sNil, sTup, sLst, sFrz, sBlt, sCall, sMth, frRes, LSt.withG, EV.d, CO.d, sAttr, fldD, sAndV, notD, sChain, zPar, zPar3, zAug, i2, lenD, absD, Dx.intD, tupD,
    Bool.not_true, Bool.not_false, Bool.false_eq_true, List.getElem?_cons_zero, List.getElem?_cons_succ, List.set_cons_zero, List.set_cons_succ, List.length_cons, List.length_nil, Nat.reduceAdd, reduceIte]
      rw [tr_fl hp2]
      rfl)
  obtain ⟨l2, e, s, rfl⟩ := loop
  have hw := walk1 hp2 (i := 1) (l := ⟨[.v (P5 a1 a2 a3 a4 a6), .v (.int p), .v (.int 0), .un, .un], g⟩) rfl
  unfold b__law_hc_trace
  simp only [zForI, hw, e, zSeq, zAsg, sVar, gTupD, gsCons, gSet, gsNil, optF, Option.bind_some, LSt.put, Res.toFl, Fl.seq, sBin, sUn, Res.bind, opt, mul_ok, addI, subI, negI, zSet, zRet, zRetN, zNext, zDrop, Fl.fr, eqI, neI, leI, ltI, sC, sTst, blD, sTru, truD, sNot, sAnd, sOr, sIf, zIf, sCons, sNil, sTup, sLst, sFrz, sBlt, sCall, sMth, frRes, LSt.withG, EV.d, CO.d, sAttr, fldD, sAndV, notD, sChain, zPar, zPar3, zAug, i2, lenD, absD, Dx.intD, tupD,
    Bool.not_true, Bool.not_false, Bool.false_eq_true, List.getElem?_cons_zero, List.getElem?_cons_succ, List.set_cons_zero, List.set_cons_succ, List.length_cons, List.length_nil, Nat.reduceAdd, reduceIte]
  rfl
theorem pr_cf {i : Nat} (hi : i < p) (X : D) (z line right : Int) (hl : Bd 1100000 line) (hr : right = (((i : Int) + a2) * i + a4) * i + a6) (hl2 : line = a1 * i + a3) :
    compLoop (gSet 11) (sTst (sBin eqD (sBin modD (sBin subD (sBin mulD (sBin addD (sVar 11) (sVar 10)) (sVar 11)) (sVar 9)) (sVar 1)) (sC (.int (0))))) (sVar 11) [11] (rangeD 0 p) []
      ⟨[.v X, .v (.int p), .v (.int a1), .v (.int a2), .v (.int a3), .v (.int a4), .v (.int a6), .v (.int z), .v (.int (0 + (i : Int))), .v (.int right), .v (.int line), .un], g⟩ =
    .ok (.lst ([] ++ (rangeD 0 p).filter (bI fun y => hol p a1 a2 a3 a4 a6 (0 + (i : Int)) y))) ⟨[.v X, .v (.int p), .v (.int a1), .v (.int a2), .v (.int a3), .v (.int a4), .v (.int a6), .v (.int z), .v (.int (0 + (i : Int))), .v (.int right), .v (.int line), .un], g⟩ := by
  refine comp_filter (bI fun y => hol p a1 a2 a3 a4 a6 (0 + (i : Int)) y) rfl (rangeD 0 p) [] (by rw [rangeD_len]; exact szL_big hp2) (fun d hd => ?_)
  obtain ⟨y, hy, rfl⟩ := mem_range hd
  have by_ := bd_small hy hp2
  have np : (0 : Int) < p := by omega
  simp (disch := (apply mulOk_bd; (focus (repeat (first | assumption | apply Bd.mul | apply Bd.add | apply Bd.sub | apply Bd.neg | exact Bd.c _))); decide)) only [mod_ok np, zSeq, zAsg, sVar, gTupD, gsCons, gSet, gsNil, optF, Option.bind_some, LSt.put, Res.toFl, Fl.seq, sBin, sUn, Res.bind, opt, mul_ok, addI, subI, negI, zSet, zRet, zRetN, zNext, zDrop, Fl.fr, eqI, neI, leI, ltI, sC, sTst, blD, sTru, truD, sNot, sAnd, sOr, sIf, zIf, sCons, sNil, sTup, sLst, sFrz, sBlt, sCall, sMth, frRes, LSt.withG, EV.d, CO.d, sAttr, fldD, sAndV, notD, sChain, zPar, zPar3, zAug, i2, lenD, absD, Dx.intD, tupD,
    Bool.not_true, Bool.not_false, Bool.false_eq_true, List.getElem?_cons_zero, List.getElem?_cons_succ, List.set_cons_zero, List.set_cons_succ, List.length_cons, List.length_nil, Nat.reduceAdd, reduceIte]
  have e : ((0 + (y : Int)) + line) * (0 + (y : Int)) - right = cF a1 a2 a3 a4 a6 (0 + (i : Int)) (0 + (y : Int)) := by
    rw [hr, hl2]
    unfold cF
    grind
  rw [e]
  rfl
theorem ev_pairs (d1 d3 d4 : D) : m_Cubic_count_pairs [.ins 0 [d1, P5 a1 a2 a3 a4 a6, d3, d4], .int p] g = .ok (.v (.int (cnt p a1 a2 a3 a4 a6))) g := by
  show (b_Cubic_count_pairs ⟨[.v (.ins 0 [d1, P5 a1 a2 a3 a4 a6, d3, d4]), .v (.int p), .un, .un, .un, .un, .un, .un, .un, .un, .un, .un], g⟩).fr = _
  have loop := for_range (t := gSet 8) (b := (zSeq (zAsg (sTup (sCons (sBin addD (sBin mulD (sBin addD (sBin mulD (sBin addD (sVar 8) (sVar 3)) (sVar 8)) (sVar 5)) (sVar 8)) (sVar 6)) (sCons (sBin addD (sBin mulD (sVar 2) (sVar 8)) (sVar 4)) sNil))) (gTupD 2 (gsCons (gSet 9) (gsCons (gSet 10) gsNil))))
    (zAug 7 (i2 fun i j => i + j) (sBlt lenD (sCons (sFrz (sComp (sWalk rng1D (sCons (sVar 1) sNil)) (gSet 11) (sTst (sBin eqD (sBin modD (sBin subD (sBin mulD (sBin addD (sVar 11) (sVar 10)) (sVar 11)) (sVar 9)) (sVar 1)) (sC (.int (0))))) (sVar 11) [11])) sNil)))))
    (Inv := fun i l => ∃ s1 s2 s3, l = ⟨[.v (.ins 0 [d1, P5 a1 a2 a3 a4 a6, d3, d4]), .v (.int p), .v (.int a1), .v (.int a2), .v (.int a3), .v (.int a4), .v (.int a6), .v (.int (sm i fun x => sm p fun y => ind (hol p a1 a2 a3 a4 a6 x y))), s1, s2, s3, .un], g⟩) p
      ⟨[.v (.ins 0 [d1, P5 a1 a2 a3 a4 a6, d3, d4]), .v (.int p), .v (.int a1), .v (.int a2), .v (.int a3), .v (.int a4), .v (.int a6), .v (.int 0), .un, .un, .un, .un], g⟩ ⟨.un, .un, .un, rfl⟩ (fun i l hi ⟨s1, s2, s3, e⟩ => by
      subst e
      refine ⟨_, _, rfl, ?_, .v (.int (0 + (i : Int))), .v (.int (((0 + (i : Int) + a2) * (0 + (i : Int)) + a4) * (0 + (i : Int)) + a6)), .v (.int (a1 * (0 + (i : Int)) + a3)), rfl⟩
      have bi := bd_small hi hp2
      have cf := pr_cf g hp hp2 h1 h2 h3 h4 (a6 := a6) hi (.ins 0 [d1, P5 a1 a2 a3 a4 a6, d3, d4]) (sm i fun x => sm p fun y => ind (hol p a1 a2 a3 a4 a6 x y)) (a1 * (0 + (i : Int)) + a3) (((0 + (i : Int) + a2) * (0 + (i : Int)) + a4) * (0 + (i : Int)) + a6)
        ⟨Nat.le_trans ((h1.mul bi).add h3).le (by decide)⟩ (by rw [Int.zero_add]) (by rw [Int.zero_add])
      have hw := walk1 hp2 (i := 1) (l := ⟨[.v (.ins 0 [d1, P5 a1 a2 a3 a4 a6, d3, d4]), .v (.int p), .v (.int a1), .v (.int a2), .v (.int a3), .v (.int a4), .v (.int a6), .v (.int (sm i fun x => sm p fun y => ind (hol p a1 a2 a3 a4 a6 x y))), .v (.int (0 + (i : Int))), .v (.int (((0 + (i : Int) + a2) * (0 + (i : Int)) + a4) * (0 + (i : Int)) + a6)), .v (.int (a1 * (0 + (i : Int)) + a3)), .un], g⟩) rfl
      have sz2 : 2 ≤ szL := by decide
      simp (disch := (apply mulOk_bd; (focus (repeat (first | assumption | apply Bd.mul | apply Bd.add | apply Bd.sub | apply Bd.neg | exact Bd.c _))); decide)) only [sComp, hw, LSt.wipeL, cf, sz2, zSeq, zAsg, sVar, gTupD, gsCons, gSet, gsNil, optF, Option.bind_some, LSt.put, Res.toFl, Fl.seq, sBin, sUn, Res.bind, opt, mul_ok, addI, subI, negI, zSet, zRet, zRetN, zNext, zDrop, Fl.fr, eqI, neI, leI, ltI, sC, sTst, blD, sTru, truD, sNot, sAnd, sOr, sIf, zIf, sCons, sNil, sTup, sLst, sFrz, sBlt, sCall, sMth, frRes, LSt.withG, EV.d, CO.d, sAttr, fldD, sAndV, notD, sChain, zPar, zPar3, zAug, i2, lenD, absD, Dx.intD, tupD,
    Bool.not_true, Bool.not_false, Bool.false_eq_true, List.getElem?_cons_zero, List.getElem?_cons_succ, List.set_cons_zero, List.set_cons_succ, List.length_cons, List.length_nil, Nat.reduceAdd, reduceIte]
      rw [tr_fl hp2]
      rfl)
  obtain ⟨l2, e, s1, s2, s3, rfl⟩ := loop
  have hw := walk1 hp2 (i := 1) (l := ⟨[.v (.ins 0 [d1, P5 a1 a2 a3 a4 a6, d3, d4]), .v (.int p), .v (.int a1), .v (.int a2), .v (.int a3), .v (.int a4), .v (.int a6), .v (.int 0), .un, .un, .un, .un], g⟩) rfl
  unfold b_Cubic_count_pairs
  simp only [ta_own_entries, zForI, hw, e, zSeq, zAsg, sVar, gTupD, gsCons, gSet, gsNil, optF, Option.bind_some, LSt.put, Res.toFl, Fl.seq, sBin, sUn, Res.bind, opt, mul_ok, addI, subI, negI, zSet, zRet, zRetN, zNext, zDrop, Fl.fr, eqI, neI, leI, ltI, sC, sTst, blD, sTru, truD, sNot, sAnd, sOr, sIf, zIf, sCons, sNil, sTup, sLst, sFrz, sBlt, sCall, sMth, frRes, LSt.withG, EV.d, CO.d, sAttr, fldD, sAndV, notD, sChain, zPar, zPar3, zAug, i2, lenD, absD, Dx.intD, tupD,
    Bool.not_true, Bool.not_false, Bool.false_eq_true, List.getElem?_cons_zero, List.getElem?_cons_succ, List.set_cons_zero, List.set_cons_succ, List.length_cons, List.length_nil, Nat.reduceAdd, reduceIte]
  rfl
end
def P12 (p : Nat) : Prop := p = 2 ∨ p = 3 ∨ p = 5 ∨ p = 7 ∨ p = 11 ∨ p = 13 ∨ p = 17 ∨ p = 19 ∨ p = 23 ∨ p = 29 ∨ p = 31 ∨ p = 37
theorem ev_need {p : Nat} (h : P12 p) (g : G) : m_need_prime [.int p] g = .ok (.v .non) g := by
  unfold P12 at h
  rcases h with rfl | rfl | rfl | rfl | rfl | rfl | rfl | rfl | rfl | rfl | rfl | rfl <;> kernel_rfl
def kd (p : Nat) (d s : Int) : D := if d % p ≠ 0 then .str "good" else if s % p = 0 then .str "cusp" else .str "node"
theorem ev_kind_in {p : Nat} (hp : 0 < p) (g : G) (d s : Int) (d2 d4 : D) : m_Cubic_kind_in [.ins 0 [.int d, d2, .int s, d4], .int p] g = .ok (.v (kd p d s)) g := by
  show (b_Cubic_kind_in ⟨[.v (.ins 0 [.int d, d2, .int s, d4]), .v (.int p)], g⟩).fr = _
  have np : (0 : Int) < p := by omega
  unfold b_Cubic_kind_in kd
  by_cases h : d % p = 0
  · by_cases k : s % p = 0
    · simp only [ta_own_discriminant, ta_own_second, mod_ok np, h, k, zSeq, zAsg, sVar, gTupD, gsCons, gSet, gsNil, optF, Option.bind_some, LSt.put, Res.toFl, Fl.seq, sBin, sUn, Res.bind, opt, mul_ok, addI, subI, negI, zSet, zRet, zRetN, zNext, zDrop, Fl.fr, eqI, neI, leI, ltI, sC, sTst, blD, sTru, truD, sNot, sAnd, sOr, sIf, zIf, sCons, sNil, sTup, sLst, sFrz, sBlt, sCall, sMth, frRes, LSt.withG, EV.d, CO.d, sAttr, fldD, sAndV, notD, sChain, zPar, zPar3, zAug, i2, lenD, absD, Dx.intD, tupD,
    Bool.not_true, Bool.not_false, Bool.false_eq_true, List.getElem?_cons_zero, List.getElem?_cons_succ, List.set_cons_zero, List.set_cons_succ, List.length_cons, List.length_nil, Nat.reduceAdd, reduceIte, decide_true, ne_eq, not_true_eq_false]
    · simp only [ta_own_discriminant, ta_own_second, mod_ok np, h, k, zSeq, zAsg, sVar, gTupD, gsCons, gSet, gsNil, optF, Option.bind_some, LSt.put, Res.toFl, Fl.seq, sBin, sUn, Res.bind, opt, mul_ok, addI, subI, negI, zSet, zRet, zRetN, zNext, zDrop, Fl.fr, eqI, neI, leI, ltI, sC, sTst, blD, sTru, truD, sNot, sAnd, sOr, sIf, zIf, sCons, sNil, sTup, sLst, sFrz, sBlt, sCall, sMth, frRes, LSt.withG, EV.d, CO.d, sAttr, fldD, sAndV, notD, sChain, zPar, zPar3, zAug, i2, lenD, absD, Dx.intD, tupD,
    Bool.not_true, Bool.not_false, Bool.false_eq_true, List.getElem?_cons_zero, List.getElem?_cons_succ, List.set_cons_zero, List.set_cons_succ, List.length_cons, List.length_nil, Nat.reduceAdd, reduceIte, decide_true, decide_false, ne_eq, not_true_eq_false]
  · simp only [ta_own_discriminant, ta_own_second, mod_ok np, h, zSeq, zAsg, sVar, gTupD, gsCons, gSet, gsNil, optF, Option.bind_some, LSt.put, Res.toFl, Fl.seq, sBin, sUn, Res.bind, opt, mul_ok, addI, subI, negI, zSet, zRet, zRetN, zNext, zDrop, Fl.fr, eqI, neI, leI, ltI, sC, sTst, blD, sTru, truD, sNot, sAnd, sOr, sIf, zIf, sCons, sNil, sTup, sLst, sFrz, sBlt, sCall, sMth, frRes, LSt.withG, EV.d, CO.d, sAttr, fldD, sAndV, notD, sChain, zPar, zPar3, zAug, i2, lenD, absD, Dx.intD, tupD,
    Bool.not_true, Bool.not_false, Bool.false_eq_true, List.getElem?_cons_zero, List.getElem?_cons_succ, List.set_cons_zero, List.set_cons_succ, List.length_cons, List.length_nil, Nat.reduceAdd, reduceIte, decide_false, ne_eq, not_false_eq_true]
section
variable {a1 a2 a3 a4 a6 : Int} {p : Nat} (g : G) (h1 : Bd 1000 a1) (h2 : Bd 1000 a2) (h3 : Bd 1000 a3) (h4 : Bd 1000 a4) (h6 : Bd 1000 a6)
/-- what is told of a cubic -/
abbrev Cu (a1 a2 a3 a4 a6 : Int) (x : Str) : D := .ins 0 [.int (dsc a1 a2 a3 a4 a6), P5 a1 a2 a3 a4 a6, .int (sec a1 a2 a3 a4), .str x]
theorem P12.pos (h : P12 p) : 0 < p := by
  unfold P12 at h
  omega
theorem P12.lt (h : P12 p) : p < 100 := by
  unfold P12 at h
  omega
theorem tm1 : tm_count_pairs 0 = some m_Cubic_count_pairs := rfl
theorem tm2 : tm_kind_in 0 = some m_Cubic_kind_in := rfl
theorem tm3 : tm_trace_at 0 = some m_Cubic_trace_at := rfl
theorem tm4 : tm_kind_at 0 = some m_Cubic_kind_at := rfl
theorem ev_kind_at (h : P12 p) (x : Str) : m_Cubic_kind_at [Cu a1 a2 a3 a4 a6 x, .int p] g = .ok (.v (kd p (dsc a1 a2 a3 a4 a6) (sec a1 a2 a3 a4))) g := by
  show (b_Cubic_kind_at ⟨[.v (Cu a1 a2 a3 a4 a6 x), .v (.int p)], g⟩).fr = _
  unfold b_Cubic_kind_at
  simp only [ev_need h, ev_kind_in h.pos, tm2, zSeq, zAsg, sVar, gTupD, gsCons, gSet, gsNil, optF, Option.bind_some, LSt.put, Res.toFl, Fl.seq, sBin, sUn, Res.bind, opt, mul_ok, addI, subI, negI, zSet, zRet, zRetN, zNext, zDrop, Fl.fr, eqI, neI, leI, ltI, sC, sTst, blD, sTru, truD, sNot, sAnd, sOr, sIf, zIf, sCons, sNil, sTup, sLst, sFrz, sBlt, sCall, sMth, frRes, LSt.withG, EV.d, CO.d, sAttr, fldD, sAndV, notD, sChain, zPar, zPar3, zAug, i2, lenD, absD, Dx.intD, tupD,
    Bool.not_true, Bool.not_false, Bool.false_eq_true, List.getElem?_cons_zero, List.getElem?_cons_succ, List.set_cons_zero, List.set_cons_succ, List.length_cons, List.length_nil, Nat.reduceAdd, reduceIte]
include h1 h2 h3 h4
theorem ev_trace_at (h : P12 p) (x : Str) : m_Cubic_trace_at [Cu a1 a2 a3 a4 a6 x, .int p] g = .ok (.v (.int (p - cnt p a1 a2 a3 a4 a6))) g := by
  show (b_Cubic_trace_at ⟨[.v (Cu a1 a2 a3 a4 a6 x), .v (.int p)], g⟩).fr = _
  unfold b_Cubic_trace_at
  simp only [ev_need h, ev_pairs g h.pos h.lt h1 h2 h3 h4, tm1, zSeq, zAsg, sVar, gTupD, gsCons, gSet, gsNil, optF, Option.bind_some, LSt.put, Res.toFl, Fl.seq, sBin, sUn, Res.bind, opt, mul_ok, addI, subI, negI, zSet, zRet, zRetN, zNext, zDrop, Fl.fr, eqI, neI, leI, ltI, sC, sTst, blD, sTru, truD, sNot, sAnd, sOr, sIf, zIf, sCons, sNil, sTup, sLst, sFrz, sBlt, sCall, sMth, frRes, LSt.withG, EV.d, CO.d, sAttr, fldD, sAndV, notD, sChain, zPar, zPar3, zAug, i2, lenD, absD, Dx.intD, tupD,
    Bool.not_true, Bool.not_false, Bool.false_eq_true, List.getElem?_cons_zero, List.getElem?_cons_succ, List.set_cons_zero, List.set_cons_succ, List.length_cons, List.length_nil, Nat.reduceAdd, reduceIte]
include h6
theorem ev_numbers : m__law_hc_numbers [P5 a1 a2 a3 a4 a6] g = .ok (.v (.tup [.int (dsc a1 a2 a3 a4 a6), .int (sec a1 a2 a3 a4)])) g := by
  show (b__law_hc_numbers ⟨[.v (P5 a1 a2 a3 a4 a6), .un, .un, .un, .un, .un, .un, .un, .un, .un, .un], g⟩).fr = _
  have sz2 : 2 ≤ szL := by decide
  unfold b__law_hc_numbers
  simp (disch := (apply mulOk_bd; (focus (repeat (first | assumption | apply Bd.mul | apply Bd.add | apply Bd.sub | apply Bd.neg | exact Bd.c _))); decide)) only [sz2, zSeq, zAsg, sVar, gTupD, gsCons, gSet, gsNil, optF, Option.bind_some, LSt.put, Res.toFl, Fl.seq, sBin, sUn, Res.bind, opt, mul_ok, addI, subI, negI, zSet, zRet, zRetN, zNext, zDrop, Fl.fr, eqI, neI, leI, ltI, sC, sTst, blD, sTru, truD, sNot, sAnd, sOr, sIf, zIf, sCons, sNil, sTup, sLst, sFrz, sBlt, sCall, sMth, frRes, LSt.withG, EV.d, CO.d, sAttr, fldD, sAndV, notD, sChain, zPar, zPar3, zAug, i2, lenD, absD, Dx.intD, tupD,
    Bool.not_true, Bool.not_false, Bool.false_eq_true, List.getElem?_cons_zero, List.getElem?_cons_succ, List.set_cons_zero, List.set_cons_succ, List.length_cons, List.length_nil, Nat.reduceAdd, reduceIte]
  rfl
theorem ev_kind (h : P12 p) : m__law_hc_kind [P5 a1 a2 a3 a4 a6, .int p] g = .ok (.v (kd p (dsc a1 a2 a3 a4 a6) (sec a1 a2 a3 a4))) g := by
  show (b__law_hc_kind ⟨[.v (P5 a1 a2 a3 a4 a6), .v (.int p), .un, .un], g⟩).fr = _
  have np : (0 : Int) < p := by have := h.pos; omega
  have en := ev_numbers g h1 h2 h3 h4 h6
  unfold b__law_hc_kind kd
  by_cases e1 : dsc a1 a2 a3 a4 a6 % p = 0
  · by_cases e2 : sec a1 a2 a3 a4 % p = 0
    · simp only [en, mod_ok np, e1, e2, zSeq, zAsg, sVar, gTupD, gsCons, gSet, gsNil, optF, Option.bind_some, LSt.put, Res.toFl, Fl.seq, sBin, sUn, Res.bind, opt, mul_ok, addI, subI, negI, zSet, zRet, zRetN, zNext, zDrop, Fl.fr, eqI, neI, leI, ltI, sC, sTst, blD, sTru, truD, sNot, sAnd, sOr, sIf, zIf, sCons, sNil, sTup, sLst, sFrz, sBlt, sCall, sMth, frRes, LSt.withG, EV.d, CO.d, sAttr, fldD, sAndV, notD, sChain, zPar, zPar3, zAug, i2, lenD, absD, Dx.intD, tupD,
    Bool.not_true, Bool.not_false, Bool.false_eq_true, List.getElem?_cons_zero, List.getElem?_cons_succ, List.set_cons_zero, List.set_cons_succ, List.length_cons, List.length_nil, Nat.reduceAdd, reduceIte, decide_true, ne_eq, not_true_eq_false]
    · simp only [en, mod_ok np, e1, e2, zSeq, zAsg, sVar, gTupD, gsCons, gSet, gsNil, optF, Option.bind_some, LSt.put, Res.toFl, Fl.seq, sBin, sUn, Res.bind, opt, mul_ok, addI, subI, negI, zSet, zRet, zRetN, zNext, zDrop, Fl.fr, eqI, neI, leI, ltI, sC, sTst, blD, sTru, truD, sNot, sAnd, sOr, sIf, zIf, sCons, sNil, sTup, sLst, sFrz, sBlt, sCall, sMth, frRes, LSt.withG, EV.d, CO.d, sAttr, fldD, sAndV, notD, sChain, zPar, zPar3, zAug, i2, lenD, absD, Dx.intD, tupD,
    Bool.not_true, Bool.not_false, Bool.false_eq_true, List.getElem?_cons_zero, List.getElem?_cons_succ, List.set_cons_zero, List.set_cons_succ, List.length_cons, List.length_nil, Nat.reduceAdd, reduceIte, decide_true, decide_false, ne_eq, not_true_eq_false]
  · simp only [en, mod_ok np, e1, zSeq, zAsg, sVar, gTupD, gsCons, gSet, gsNil, optF, Option.bind_some, LSt.put, Res.toFl, Fl.seq, sBin, sUn, Res.bind, opt, mul_ok, addI, subI, negI, zSet, zRet, zRetN, zNext, zDrop, Fl.fr, eqI, neI, leI, ltI, sC, sTst, blD, sTru, truD, sNot, sAnd, sOr, sIf, zIf, sCons, sNil, sTup, sLst, sFrz, sBlt, sCall, sMth, frRes, LSt.withG, EV.d, CO.d, sAttr, fldD, sAndV, notD, sChain, zPar, zPar3, zAug, i2, lenD, absD, Dx.intD, tupD,
    Bool.not_true, Bool.not_false, Bool.false_eq_true, List.getElem?_cons_zero, List.getElem?_cons_succ, List.set_cons_zero, List.set_cons_succ, List.length_cons, List.length_nil, Nat.reduceAdd, reduceIte, decide_false, ne_eq, not_false_eq_true]
end
/-! ### a cubic is made -/
theorem comp_map {j : Nat} {fe : LSt → Res D} {l : LSt} (F : D → D) (un : l.sl[j]? = some .un) : ∀ (ds acc : List D), acc.length + ds.length ≤ szL → (∀ d, d ∈ ds → fe (l.put j (.v d)) = .ok (F d) (l.put j (.v d))) →
    compLoop (gSet j) sYes fe [j] ds acc l = .ok (.lst (acc ++ ds.map F)) l
  | [], acc, _, _ => by
    simp [compLoop]
  | d :: ds, acc, hl, h => by
    have hj : j < l.sl.length := (List.getElem?_eq_some_iff.mp un).1
    have back : (l.put j (.v d)).wipeL [j] = l := by
      show LSt.mk ((l.sl.set j (.v d)).set j .un) l.g = l
      rw [List.set_set]
      congr 1
      apply List.ext_getElem?
      intro k
      by_cases hk : k = j
      · rw [hk, List.getElem?_set_self hj, un]
      · rw [List.getElem?_set_ne (Ne.symm hk)]
    rw [List.length_cons] at hl
    have ih := fun acc' q => comp_map (j := j) (fe := fe) (l := l) F un ds acc' q fun d hd => h d (List.mem_cons_of_mem _ hd)
    unfold compLoop
    simp only [gSet, sYes, h d (List.mem_cons_self ..)]
    rw [if_pos (by omega), back, ih _ (by rw [List.length_append, List.length_singleton]; omega), List.append_assoc]
    rfl
theorem ev_plain (a : Int) (g : G) : m_is_plain [.int a] g = .ok (.v (.bl true)) g := rfl
theorem ev_short {a : Int} (g : G) (h : Bd 1000 a) : m_is_short [.int a] g = .ok (.v (.bl true)) g := by
  show (b_is_short ⟨[.v (.int a)], g⟩).fr = _
  have := h.le
  have e1 : decide (-1000000000000000000000000000000000000000000000000000000000000 < a) = true := decide_eq_true (by omega)
  have e2 : decide (a < 1000000000000000000000000000000000000000000000000000000000000) = true := decide_eq_true (by omega)
  unfold b_is_short
  simp only [ev_plain, e1, e2, zSeq, zAsg, sVar, gTupD, gsCons, gSet, gsNil, optF, Option.bind_some, LSt.put, Res.toFl, Fl.seq, sBin, sUn, Res.bind, opt, mul_ok, addI, subI, negI, zSet, zRet, zRetN, zNext, zDrop, Fl.fr, eqI, neI, leI, ltI, sC, sTst, blD, sTru, truD, sNot, sAnd, sOr, sIf, zIf, sCons, sNil, sTup, sLst, sFrz, sBlt, sCall, sMth, frRes, LSt.withG, EV.d, CO.d, sAttr, fldD, sAndV, notD, sChain, zPar, zPar3, zAug, i2, lenD, absD, Dx.intD, tupD,
    Bool.not_true, Bool.not_false, Bool.false_eq_true, List.getElem?_cons_zero, List.getElem?_cons_succ, List.set_cons_zero, List.set_cons_succ, List.length_cons, List.length_nil, Nat.reduceAdd, reduceIte]
theorem ev_integer {a : Int} (g : G) (h : Bd 1000 a) : m_is_integer [.int a] g = .ok (.v (.bl true)) g := by
  show (b_is_integer ⟨[.v (.int a)], g⟩).fr = _
  unfold b_is_integer
  simp only [ev_short g h, zSeq, zAsg, sVar, gTupD, gsCons, gSet, gsNil, optF, Option.bind_some, LSt.put, Res.toFl, Fl.seq, sBin, sUn, Res.bind, opt, mul_ok, addI, subI, negI, zSet, zRet, zRetN, zNext, zDrop, Fl.fr, eqI, neI, leI, ltI, sC, sTst, blD, sTru, truD, sNot, sAnd, sOr, sIf, zIf, sCons, sNil, sTup, sLst, sFrz, sBlt, sCall, sMth, frRes, LSt.withG, EV.d, CO.d, sAttr, fldD, sAndV, notD, sChain, zPar, zPar3, zAug, i2, lenD, absD, Dx.intD, tupD,
    Bool.not_true, Bool.not_false, Bool.false_eq_true, List.getElem?_cons_zero, List.getElem?_cons_succ, List.set_cons_zero, List.set_cons_succ, List.length_cons, List.length_nil, Nat.reduceAdd, reduceIte]
theorem len_app (a b : Str) : (a ++ b).length = a.length + b.length := Array.size_append ..
theorem len_int {a : Int} (h : Bd 1000 a) : (Str.ofString (toString a)).length ≤ 5 := by
  rw [PySem.ofString_length]
  exact int_text_length_le10 (k := 4) (by decide) (Nat.lt_of_le_of_lt h.le (by decide))
theorem fmt_int {a : Int} (h : Bd 1000 a) : fmtD (.int a) = some (.str (toString a)) := by
  have e : a.natAbs.log2 < 1920 := by
    have := h.le
    have := Nat.log2_le_self a.natAbs
    omega
  exact if_pos e
theorem jex {l : LSt} : ∀ (fs : List (LSt → Res D)) (acc : Str) (n : Nat), (∀ f, f ∈ fs → ∃ y : Str, f l = .ok (.str y) l ∧ y.length ≤ 6) → acc.length ≤ n → n + 6 * fs.length ≤ szL → ∃ x, sJoinP fs acc l = .ok (.str x) l
  | [], acc, _, _, _, _ => ⟨acc, rfl⟩
  | f :: fs, acc, n, h, ha, hz => by
    obtain ⟨y, e, hy⟩ := h f (List.mem_cons_self ..)
    rw [List.length_cons] at hz
    have hl : (acc ++ y).length ≤ n + 6 := by
      rw [len_app]
      omega
    obtain ⟨x, q⟩ := jex fs (acc ++ y) (n + 6) (fun f hf => h f (List.mem_cons_of_mem _ hf)) hl (by omega)
    refine ⟨x, ?_⟩
    unfold sJoinP
    rw [e]
    show (if (acc ++ y).length ≤ szL then sJoinP fs (acc ++ y) l else .bad) = _
    rw [if_pos (by omega)]
    exact q
theorem put1 {e : D} : putO 1 e [] = [none, some e] := rfl
theorem put0 {d : D} {x : Option D} : putO 0 d [none, x] = [some d, x] := rfl
theorem put2 {d : D} {x y : Option D} : putO 2 d [x, y] = [x, y, some d] := rfl
theorem put3 {d : D} {x y z : Option D} : putO 3 d [x, y, z] = [x, y, z, some d] := rfl
section
variable {a1 a2 a3 a4 a6 : Int} (g : G) (h1 : Bd 1000 a1) (h2 : Bd 1000 a2) (h3 : Bd 1000 a3) (h4 : Bd 1000 a4) (h6 : Bd 1000 a6)
theorem in_fe {a : Int} (h : Bd 1000 a) (l : LSt) (hl : l.sl[7]? = some (.v (.int a))) : sAndV (sCall m_is_integer (sCons (sVar 7) sNil)) (sChain leD leD (sUn negD (sC (.int (1000)))) (sVar 7) (sC (.int (1000)))) l = .ok (.bl true) l := by
  have := h.le
  have e1 : decide (-1000 ≤ a) = true := decide_eq_true (by omega)
  have e2 : decide (a ≤ 1000) = true := decide_eq_true (by omega)
  simp only [sAndV, sCall, sCons, sNil, sVar, hl, Res.bind, ev_integer l.g h, LSt.withG, EV.d, sChain, sUn, sC, negI, leI, opt, e1, e2]
include h1 h2 h3 h4 h6
theorem in_cf (l : LSt) (hl : l.sl[7]? = some .un) : compLoop (gSet 7) sYes (sAndV (sCall m_is_integer (sCons (sVar 7) sNil)) (sChain leD leD (sUn negD (sC (.int (1000)))) (sVar 7) (sC (.int (1000))))) [7] [.int a1, .int a2, .int a3, .int a4, .int a6] [] l =
    .ok (.lst [.bl true, .bl true, .bl true, .bl true, .bl true]) l := by
  have hj : 7 < l.sl.length := (List.getElem?_eq_some_iff.mp hl).1
  refine comp_map (fun _ => .bl true) hl _ _ (show 0 + 5 ≤ szL by decide) (fun d hd => ?_)
  have at7 : ∀ x : Slot, (l.put 7 x).sl[7]? = some x := fun x => List.getElem?_set_self hj
  simp only [List.mem_cons, List.not_mem_nil, or_false] at hd
  rcases hd with rfl | rfl | rfl | rfl | rfl
  · exact in_fe h1 _ (at7 _)
  · exact in_fe h2 _ (at7 _)
  · exact in_fe h3 _ (at7 _)
  · exact in_fe h4 _ (at7 _)
  · exact in_fe h6 _ (at7 _)
theorem in_txt (l : LSt) (e1 : l.sl[1]? = some (.v (.int a1))) (e2 : l.sl[2]? = some (.v (.int a2))) (e3 : l.sl[3]? = some (.v (.int a3))) (e4 : l.sl[4]? = some (.v (.int a4))) (e6 : l.sl[5]? = some (.v (.int a6))) :
    ∃ x, sJoinP [(sC (.str "cubic ")), (sUn fmtD (sVar 1)), (sC (.str " ")), (sUn fmtD (sVar 2)), (sC (.str " ")), (sUn fmtD (sVar 3)), (sC (.str " ")), (sUn fmtD (sVar 4)), (sC (.str " ")), (sUn fmtD (sVar 5))] Str.empty l = .ok (.str x) l := by
  have sf : ∀ (k : Nat) (a : Int), l.sl[k]? = some (.v (.int a)) → Bd 1000 a → ∃ y : Str, sUn fmtD (sVar k) l = .ok (.str y) l ∧ y.length ≤ 6 := fun k a e h => ⟨Str.ofString (toString a), by
    unfold sUn sVar
    rw [e]
    show opt (fmtD (.int a)) l = _
    rw [fmt_int h]
    rfl, Nat.le_trans (len_int h) (by decide)⟩
  have s1 : (Str.ofString "cubic ").length ≤ 6 := by decide +kernel
  have s2 : (Str.ofString " ").length ≤ 6 := by decide +kernel
  refine jex _ _ 0 (fun f hf => ?_) (Nat.le_refl _) (show 0 + 6 * 10 ≤ szL by decide)
  simp only [List.mem_cons, List.not_mem_nil, or_false] at hf
  rcases hf with rfl | rfl | rfl | rfl | rfl | rfl | rfl | rfl | rfl | rfl
  · exact ⟨_, rfl, s1⟩
  · exact sf 1 a1 e1 h1
  · exact ⟨_, rfl, s2⟩
  · exact sf 2 a2 e2 h2
  · exact ⟨_, rfl, s2⟩
  · exact sf 3 a3 e3 h3
  · exact ⟨_, rfl, s2⟩
  · exact sf 4 a4 e4 h4
  · exact ⟨_, rfl, s2⟩
  · exact sf 5 a6 e6 h6
theorem ev_init : ∃ x, i_Cubic [.int a1, .int a2, .int a3, .int a4, .int a6] ⟨g.d, some (0, [])⟩ =
    .ok (.v .non) ⟨g.d, some (0, [some (.int (dsc a1 a2 a3 a4 a6)), some (P5 a1 a2 a3 a4 a6), some (.int (sec a1 a2 a3 a4)), some (.str x)])⟩ := by
  obtain ⟨x, ex⟩ := in_txt h1 h2 h3 h4 h6 ⟨[.slf, .v (.int a1), .v (.int a2), .v (.int a3), .v (.int a4), .v (.int a6), .v (P5 a1 a2 a3 a4 a6), .un, .v (.int (b2 a1 a2)), .v (.int (b4 a1 a3 a4)), .v (.int (b6 a3 a6)), .v (.int (b8 a1 a2 a3 a4 a6))],
    ⟨g.d, some (0, [some (.int (dsc a1 a2 a3 a4 a6)), some (P5 a1 a2 a3 a4 a6), some (.int (sec a1 a2 a3 a4))])⟩⟩ rfl rfl rfl rfl rfl
  refine ⟨x, ?_⟩
  show (b_Cubic_init ⟨[.slf, .v (.int a1), .v (.int a2), .v (.int a3), .v (.int a4), .v (.int a6), .un, .un, .un, .un, .un, .un], ⟨g.d, some (0, [])⟩⟩).fr = _
  have sz5 : 5 ≤ szL := by decide
  have cf := in_cf h1 h2 h3 h4 h6 ⟨[.slf, .v (.int a1), .v (.int a2), .v (.int a3), .v (.int a4), .v (.int a6), .v (P5 a1 a2 a3 a4 a6), .un, .un, .un, .un, .un], ⟨g.d, some (0, [])⟩⟩ rfl
  have al : allD [.lst [.bl true, .bl true, .bl true, .bl true, .bl true]] = some (.bl true) := rfl
  have c2 : ∀ z, z = a1 * a1 + 4 * a2 → z = b2 a1 a2 := fun z q => q
  unfold b_Cubic_init
  unfold dsc dof sec b8 b6 b4 b2 at *
  simp (disch := (apply mulOk_bd; (focus (repeat (first | assumption | apply Bd.mul | apply Bd.add | apply Bd.sub | apply Bd.neg | exact Bd.c _))); decide)) only [sz5, sComp, sItems, seqD, LSt.wipeL, cf, al, zSelf, ta_own_entries, ta_own_discriminant, ta_own_second, ta_own_text, put1, put0, put2, put3, ex, zSeq, zAsg, sVar, gTupD, gsCons, gSet, gsNil, optF, Option.bind_some, LSt.put, Res.toFl, Fl.seq, sBin, sUn, Res.bind, opt, mul_ok, addI, subI, negI, zSet, zRet, zRetN, zNext, zDrop, Fl.fr, eqI, neI, leI, ltI, sC, sTst, blD, sTru, truD, sNot, sAnd, sOr, sIf, zIf, sCons, sNil, sTup, sLst, sFrz, sBlt, sCall, sMth, frRes, LSt.withG, EV.d, CO.d, sAttr, fldD, sAndV, notD, sChain, zPar, zPar3, zAug, i2, lenD, absD, Dx.intD, tupD,
    Bool.not_true, Bool.not_false, Bool.false_eq_true, List.getElem?_cons_zero, List.getElem?_cons_succ, List.set_cons_zero, List.set_cons_succ, List.length_cons, List.length_nil, Nat.reduceAdd, reduceIte]
theorem ev_make : ∃ x, mkC 0 i_Cubic [.int a1, .int a2, .int a3, .int a4, .int a6] g = .ok (.v (Cu a1 a2 a3 a4 a6 x)) g := by
  obtain ⟨x, e⟩ := ev_init g h1 h2 h3 h4 h6
  refine ⟨x, ?_⟩
  show (match i_Cubic [.int a1, .int a2, .int a3, .int a4, .int a6] ⟨g.d, some (0, [])⟩ with
    | .ok (.v .non) g' => (match g'.ob with
      | some (n', f :: fs) => if n' = 0 then (match allS (f :: fs) with
        | some fs' => FR.ok (.v (.ins 0 fs')) { g' with ob := g.ob }
        | none => .bad) else .bad
      | _ => .bad)
    | .ok _ _ => .bad
    | .ex x g' => .ex x { g' with ob := g.ob }
    | .bad => .bad) = _
  rw [e]
  rfl
end
/-! ### a search -/
theorem find_any {t : Tgt} {b : LSt → Fl} {Inv : Nat → LSt → Prop} {C : Nat → Bool} {End : LSt → Prop} {e : EV} : ∀ (m k : Nat) (l : LSt), Inv k l →
    (∀ i l, k ≤ i → i < k + m → Inv i l → ∃ l1, t (.int (0 + (i : Int))) l = some l1 ∧ ((C i = true ∧ ∃ l2, b l1 = .rt e l2 ∧ End l2) ∨ (C i = false ∧ ∃ l2, b l1 = .nx l2 ∧ Inv (i + 1) l2))) →
    ((∃ i, k ≤ i ∧ i < k + m ∧ C i = true) ∧ ∃ l2, zFor t b ((List.range' k m).map fun i : Nat => D.int (0 + (i : Int))) l = .rt e l2 ∧ End l2) ∨
    ((∀ i, k ≤ i → i < k + m → C i = false) ∧ ∃ l2, zFor t b ((List.range' k m).map fun i : Nat => D.int (0 + (i : Int))) l = .nx l2 ∧ Inv (k + m) l2)
  | 0, k, l, h, _ => .inr ⟨fun i a c => absurd a (by omega), l, rfl, h⟩
  | m + 1, k, l, h, st => by
    rw [List.range'_succ, List.map_cons]
    unfold zFor
    obtain ⟨l1, e1, q⟩ := st k l (Nat.le_refl _) (by omega) h
    simp only [e1]
    rcases q with ⟨c, l2, e2, h2⟩ | ⟨c, l2, e2, h2⟩
    · simp only [e2]
      exact .inl ⟨⟨k, Nat.le_refl _, by omega, c⟩, l2, rfl, h2⟩
    · simp only [e2]
      rcases find_any (t := t) (b := b) (Inv := Inv) (C := C) (End := End) (e := e) m (k + 1) l2 h2 fun i l a c => st i l (by omega) (by omega) with ⟨⟨j, j1, j2, j3⟩, r⟩ | ⟨n, l3, e3, h3⟩
      · exact .inl ⟨⟨j, by omega, by omega, j3⟩, r⟩
      · refine .inr ⟨fun j a d => ?_, l3, e3, by rw [show k + (m + 1) = k + 1 + m by omega]; exact h3⟩
        by_cases z : j = k
        · rw [z]
          exact c
        · exact n j (by omega) (by omega)
theorem find_range {t : Tgt} {b : LSt → Fl} {Inv : Nat → LSt → Prop} {C : Nat → Bool} {End : LSt → Prop} {e : EV} (n : Nat) (l : LSt) (h : Inv 0 l)
    (st : ∀ (i : Nat) l, i < n → Inv i l → ∃ l1, t (.int (0 + (i : Int))) l = some l1 ∧ ((C i = true ∧ ∃ l2, b l1 = .rt e l2 ∧ End l2) ∨ (C i = false ∧ ∃ l2, b l1 = .nx l2 ∧ Inv (i + 1) l2))) :
    (anN n C = true ∧ ∃ l2, zFor t b (rangeD 0 n) l = .rt e l2 ∧ End l2) ∨ (anN n C = false ∧ ∃ l2, zFor t b (rangeD 0 n) l = .nx l2 ∧ Inv n l2) := by
  have q := find_any (t := t) (b := b) (Inv := Inv) (C := C) (End := End) (e := e) n 0 l h fun i l _ c => st i l (by omega)
  rw [← List.range_eq_range', Nat.zero_add] at q
  rcases q with ⟨⟨i, _, i2, i3⟩, r⟩ | ⟨z, r⟩
  · exact .inl ⟨anN_iff.mpr ⟨i, i2, i3⟩, r⟩
  · refine .inr ⟨?_, r⟩
    cases e : anN n C with
    | false => rfl
    | true =>
      obtain ⟨i, i2, i3⟩ := anN_iff.mp e
      rw [z i (Nat.zero_le _) i2] at i3
      cases i3
section
variable {a1 a2 a3 a4 a6 : Int} {p : Nat} (g : G) (hp : 0 < p) (hp2 : p < 100) (h1 : Bd 1000 a1) (h2 : Bd 1000 a2) (h3 : Bd 1000 a3) (h4 : Bd 1000 a4) (h6 : Bd 1000 a6)
include hp hp2 h1 h2 h3 h4
theorem si_body {i j : Nat} (hi : i < p) (hj : j < p) : (zIf (sAnd (sTru (sCall m__law_hc_holds (sCons (sVar 0) (sCons (sVar 1) (sCons (sVar 7) (sCons (sVar 8) sNil)))))) (sTst (sBin eqD (sBin modD (sBin addD (sBin addD (sBin mulD (sC (.int (2))) (sVar 8)) (sBin mulD (sVar 2) (sVar 7))) (sVar 4)) (sVar 1)) (sC (.int (0)))))) (zIf (sTst (sBin eqD (sBin modD (sBin subD (sBin subD (sBin subD (sBin mulD (sVar 2) (sVar 8)) (sBin mulD (sBin mulD (sC (.int (3))) (sVar 7)) (sVar 7))) (sBin mulD (sBin mulD (sC (.int (2))) (sVar 3)) (sVar 7))) (sVar 5)) (sVar 1)) (sC (.int (0))))) (zRet (sC (.bl true))) zNext) zNext)
    ⟨[.v (P5 a1 a2 a3 a4 a6), .v (.int p), .v (.int a1), .v (.int a2), .v (.int a3), .v (.int a4), .v (.int a6), .v (.int (0 + (i : Int))), .v (.int (0 + (j : Int)))], g⟩ =
    if sgl p a1 a2 a3 a4 a6 i j = true then .rt (.v (.bl true)) ⟨[.v (P5 a1 a2 a3 a4 a6), .v (.int p), .v (.int a1), .v (.int a2), .v (.int a3), .v (.int a4), .v (.int a6), .v (.int (0 + (i : Int))), .v (.int (0 + (j : Int)))], g⟩
    else .nx ⟨[.v (P5 a1 a2 a3 a4 a6), .v (.int p), .v (.int a1), .v (.int a2), .v (.int a3), .v (.int a4), .v (.int a6), .v (.int (0 + (i : Int))), .v (.int (0 + (j : Int)))], g⟩ := by
  have bi := bd_small hi hp2
  have bj := bd_small hj hp2
  have np : (0 : Int) < p := by omega
  have e := ev_holds (a6 := a6) g np h1 h2 h3 h4 bi bj
  have es : sgl p a1 a2 a3 a4 a6 i j = sgl p a1 a2 a3 a4 a6 (0 + (i : Int)) (0 + (j : Int)) := by rw [Int.zero_add, Int.zero_add]
  rw [es]
  unfold sgl cY cX
  by_cases q1 : cF a1 a2 a3 a4 a6 (0 + (i : Int)) (0 + (j : Int)) % p = 0
  · by_cases q2 : (2 * (0 + (j : Int)) + a1 * (0 + (i : Int)) + a3) % p = 0
    · by_cases q3 : (a1 * (0 + (j : Int)) - 3 * (0 + (i : Int)) * (0 + (i : Int)) - 2 * a2 * (0 + (i : Int)) - a4) % p = 0
      · simp (disch := (apply mulOk_bd; (focus (repeat (first | assumption | apply Bd.mul | apply Bd.add | apply Bd.sub | apply Bd.neg | exact Bd.c _))); decide)) only [e, mod_ok np, q1, q2, q3, decide_true, decide_false, Bool.and_true, Bool.and_false, Bool.true_and, Bool.false_and, zSeq, zAsg, sVar, gTupD, gsCons, gSet, gsNil, optF, Option.bind_some, LSt.put, Res.toFl, Fl.seq, sBin, sUn, Res.bind, opt, mul_ok, addI, subI, negI, zSet, zRet, zRetN, zNext, zDrop, Fl.fr, eqI, neI, leI, ltI, sC, sTst, blD, sTru, truD, sNot, sAnd, sOr, sIf, zIf, sCons, sNil, sTup, sLst, sFrz, sBlt, sCall, sMth, frRes, LSt.withG, EV.d, CO.d, sAttr, fldD, sAndV, notD, sChain, zPar, zPar3, zAug, i2, lenD, absD, Dx.intD, tupD,
    Bool.not_true, Bool.not_false, Bool.false_eq_true, List.getElem?_cons_zero, List.getElem?_cons_succ, List.set_cons_zero, List.set_cons_succ, List.length_cons, List.length_nil, Nat.reduceAdd, reduceIte]
      · simp (disch := (apply mulOk_bd; (focus (repeat (first | assumption | apply Bd.mul | apply Bd.add | apply Bd.sub | apply Bd.neg | exact Bd.c _))); decide)) only [e, mod_ok np, q1, q2, q3, decide_true, decide_false, Bool.and_true, Bool.and_false, Bool.true_and, Bool.false_and, zSeq, zAsg, sVar, gTupD, gsCons, gSet, gsNil, optF, Option.bind_some, LSt.put, Res.toFl, Fl.seq, sBin, sUn, Res.bind, opt, mul_ok, addI, subI, negI, zSet, zRet, zRetN, zNext, zDrop, Fl.fr, eqI, neI, leI, ltI, sC, sTst, blD, sTru, truD, sNot, sAnd, sOr, sIf, zIf, sCons, sNil, sTup, sLst, sFrz, sBlt, sCall, sMth, frRes, LSt.withG, EV.d, CO.d, sAttr, fldD, sAndV, notD, sChain, zPar, zPar3, zAug, i2, lenD, absD, Dx.intD, tupD,
    Bool.not_true, Bool.not_false, Bool.false_eq_true, List.getElem?_cons_zero, List.getElem?_cons_succ, List.set_cons_zero, List.set_cons_succ, List.length_cons, List.length_nil, Nat.reduceAdd, reduceIte]
    · simp (disch := (apply mulOk_bd; (focus (repeat (first | assumption | apply Bd.mul | apply Bd.add | apply Bd.sub | apply Bd.neg | exact Bd.c _))); decide)) only [e, mod_ok np, q1, q2, decide_true, decide_false, Bool.and_true, Bool.and_false, Bool.true_and, Bool.false_and, zSeq, zAsg, sVar, gTupD, gsCons, gSet, gsNil, optF, Option.bind_some, LSt.put, Res.toFl, Fl.seq, sBin, sUn, Res.bind, opt, mul_ok, addI, subI, negI, zSet, zRet, zRetN, zNext, zDrop, Fl.fr, eqI, neI, leI, ltI, sC, sTst, blD, sTru, truD, sNot, sAnd, sOr, sIf, zIf, sCons, sNil, sTup, sLst, sFrz, sBlt, sCall, sMth, frRes, LSt.withG, EV.d, CO.d, sAttr, fldD, sAndV, notD, sChain, zPar, zPar3, zAug, i2, lenD, absD, Dx.intD, tupD,
    Bool.not_true, Bool.not_false, Bool.false_eq_true, List.getElem?_cons_zero, List.getElem?_cons_succ, List.set_cons_zero, List.set_cons_succ, List.length_cons, List.length_nil, Nat.reduceAdd, reduceIte]
  · simp (disch := (apply mulOk_bd; (focus (repeat (first | assumption | apply Bd.mul | apply Bd.add | apply Bd.sub | apply Bd.neg | exact Bd.c _))); decide)) only [e, mod_ok np, q1, decide_true, decide_false, Bool.and_true, Bool.and_false, Bool.true_and, Bool.false_and, zSeq, zAsg, sVar, gTupD, gsCons, gSet, gsNil, optF, Option.bind_some, LSt.put, Res.toFl, Fl.seq, sBin, sUn, Res.bind, opt, mul_ok, addI, subI, negI, zSet, zRet, zRetN, zNext, zDrop, Fl.fr, eqI, neI, leI, ltI, sC, sTst, blD, sTru, truD, sNot, sAnd, sOr, sIf, zIf, sCons, sNil, sTup, sLst, sFrz, sBlt, sCall, sMth, frRes, LSt.withG, EV.d, CO.d, sAttr, fldD, sAndV, notD, sChain, zPar, zPar3, zAug, i2, lenD, absD, Dx.intD, tupD,
    Bool.not_true, Bool.not_false, Bool.false_eq_true, List.getElem?_cons_zero, List.getElem?_cons_succ, List.set_cons_zero, List.set_cons_succ, List.length_cons, List.length_nil, Nat.reduceAdd, reduceIte]
theorem ev_sing : m__law_singular [P5 a1 a2 a3 a4 a6, .int p] g = .ok (.v (.bl (decide (sng p a1 a2 a3 a4 a6 ≠ 0)))) g := by
  show (b__law_singular ⟨[.v (P5 a1 a2 a3 a4 a6), .v (.int p), .un, .un, .un, .un, .un, .un, .un], g⟩).fr = _
  have loop := find_range (t := gSet 7) (b := zForI (sWalk rng1D (sCons (sVar 1) sNil)) (gSet 8) (zIf (sAnd (sTru (sCall m__law_hc_holds (sCons (sVar 0) (sCons (sVar 1) (sCons (sVar 7) (sCons (sVar 8) sNil)))))) (sTst (sBin eqD (sBin modD (sBin addD (sBin addD (sBin mulD (sC (.int (2))) (sVar 8)) (sBin mulD (sVar 2) (sVar 7))) (sVar 4)) (sVar 1)) (sC (.int (0)))))) (zIf (sTst (sBin eqD (sBin modD (sBin subD (sBin subD (sBin subD (sBin mulD (sVar 2) (sVar 8)) (sBin mulD (sBin mulD (sC (.int (3))) (sVar 7)) (sVar 7))) (sBin mulD (sBin mulD (sC (.int (2))) (sVar 3)) (sVar 7))) (sVar 5)) (sVar 1)) (sC (.int (0))))) (zRet (sC (.bl true))) zNext) zNext))
    (Inv := fun i l => ∃ s1 s2, l = ⟨[.v (P5 a1 a2 a3 a4 a6), .v (.int p), .v (.int a1), .v (.int a2), .v (.int a3), .v (.int a4), .v (.int a6), s1, s2], g⟩) (C := fun i => anN p fun j => sgl p a1 a2 a3 a4 a6 i j) (End := fun l => l.g = g) (e := .v (.bl true))
    p ⟨[.v (P5 a1 a2 a3 a4 a6), .v (.int p), .v (.int a1), .v (.int a2), .v (.int a3), .v (.int a4), .v (.int a6), .un, .un], g⟩ ⟨.un, .un, rfl⟩ (fun i l hi ⟨s1, s2, e⟩ => by
      subst e
      refine ⟨_, rfl, ?_⟩
      have inner := find_range (t := gSet 8) (b := (zIf (sAnd (sTru (sCall m__law_hc_holds (sCons (sVar 0) (sCons (sVar 1) (sCons (sVar 7) (sCons (sVar 8) sNil)))))) (sTst (sBin eqD (sBin modD (sBin addD (sBin addD (sBin mulD (sC (.int (2))) (sVar 8)) (sBin mulD (sVar 2) (sVar 7))) (sVar 4)) (sVar 1)) (sC (.int (0)))))) (zIf (sTst (sBin eqD (sBin modD (sBin subD (sBin subD (sBin subD (sBin mulD (sVar 2) (sVar 8)) (sBin mulD (sBin mulD (sC (.int (3))) (sVar 7)) (sVar 7))) (sBin mulD (sBin mulD (sC (.int (2))) (sVar 3)) (sVar 7))) (sVar 5)) (sVar 1)) (sC (.int (0))))) (zRet (sC (.bl true))) zNext) zNext))
        (Inv := fun j l => ∃ s2, l = ⟨[.v (P5 a1 a2 a3 a4 a6), .v (.int p), .v (.int a1), .v (.int a2), .v (.int a3), .v (.int a4), .v (.int a6), .v (.int (0 + (i : Int))), s2], g⟩) (C := fun j => sgl p a1 a2 a3 a4 a6 i j) (End := fun l => l.g = g) (e := .v (.bl true))
        p ⟨[.v (P5 a1 a2 a3 a4 a6), .v (.int p), .v (.int a1), .v (.int a2), .v (.int a3), .v (.int a4), .v (.int a6), .v (.int (0 + (i : Int))), s2], g⟩ ⟨s2, rfl⟩ (fun j l hj ⟨s2, e⟩ => by
          subst e
          refine ⟨_, rfl, ?_⟩
          have bd := si_body g hp hp2 h1 h2 h3 h4 (a6 := a6) hi hj
          by_cases q : sgl p a1 a2 a3 a4 a6 i j = true
          · rw [if_pos q] at bd
            exact .inl ⟨q, _, bd, rfl⟩
          · rw [if_neg q] at bd
            exact .inr ⟨by simpa using q, _, bd, _, rfl⟩)
      have hw := walk1 hp2 (i := 1) (l := ⟨[.v (P5 a1 a2 a3 a4 a6), .v (.int p), .v (.int a1), .v (.int a2), .v (.int a3), .v (.int a4), .v (.int a6), .v (.int (0 + (i : Int))), s2], g⟩) rfl
      rcases inner with ⟨c, l2, e, q⟩ | ⟨c, l2, e, s3, q⟩
      · refine .inl ⟨c, l2, ?_, q⟩
        show (sWalk rng1D (sCons (sVar 1) sNil) ⟨[.v (P5 a1 a2 a3 a4 a6), .v (.int p), .v (.int a1), .v (.int a2), .v (.int a3), .v (.int a4), .v (.int a6), .v (.int (0 + (i : Int))), s2], g⟩).toFl _ = _
        rw [hw]
        exact e
      · refine .inr ⟨c, l2, ?_, _, s3, q⟩
        show (sWalk rng1D (sCons (sVar 1) sNil) ⟨[.v (P5 a1 a2 a3 a4 a6), .v (.int p), .v (.int a1), .v (.int a2), .v (.int a3), .v (.int a4), .v (.int a6), .v (.int (0 + (i : Int))), s2], g⟩).toFl _ = _
        rw [hw]
        exact e)
  have hw := walk1 hp2 (i := 1) (l := ⟨[.v (P5 a1 a2 a3 a4 a6), .v (.int p), .v (.int a1), .v (.int a2), .v (.int a3), .v (.int a4), .v (.int a6), .un, .un], g⟩) rfl
  have key : (anN p fun i => anN p fun j => sgl p a1 a2 a3 a4 a6 i j) = decide (sng p a1 a2 a3 a4 a6 ≠ 0) := by
    have k : (anN p fun i => anN p fun j => sgl p a1 a2 a3 a4 a6 i j) = true ↔ sng p a1 a2 a3 a4 a6 ≠ 0 := by
      rw [anN_iff, sng_iff]
      constructor
      · rintro ⟨x, hx, q⟩
        exact ⟨x, hx, anN_iff.mp q⟩
      · rintro ⟨x, hx, q⟩
        exact ⟨x, hx, anN_iff.mpr q⟩
    by_cases z : sng p a1 a2 a3 a4 a6 ≠ 0
    · rw [k.mpr z, decide_eq_true z]
    · rw [decide_eq_false z]
      cases e : (anN p fun i => anN p fun j => sgl p a1 a2 a3 a4 a6 i j) with
      | false => rfl
      | true => exact absurd (k.mp e) z
  unfold b__law_singular
  rcases loop with ⟨c, l2, e, q⟩ | ⟨c, l2, e, s1, s2, rfl⟩
  · rw [key] at c
    simp only [zForI, hw, e, c, q, zSeq, zAsg, sVar, gTupD, gsCons, gSet, gsNil, optF, Option.bind_some, LSt.put, Res.toFl, Fl.seq, sBin, sUn, Res.bind, opt, mul_ok, addI, subI, negI, zSet, zRet, zRetN, zNext, zDrop, Fl.fr, eqI, neI, leI, ltI, sC, sTst, blD, sTru, truD, sNot, sAnd, sOr, sIf, zIf, sCons, sNil, sTup, sLst, sFrz, sBlt, sCall, sMth, frRes, LSt.withG, EV.d, CO.d, sAttr, fldD, sAndV, notD, sChain, zPar, zPar3, zAug, i2, lenD, absD, Dx.intD, tupD,
    Bool.not_true, Bool.not_false, Bool.false_eq_true, List.getElem?_cons_zero, List.getElem?_cons_succ, List.set_cons_zero, List.set_cons_succ, List.length_cons, List.length_nil, Nat.reduceAdd, reduceIte]
  · rw [key] at c
    simp only [zForI, hw, e, c, zSeq, zAsg, sVar, gTupD, gsCons, gSet, gsNil, optF, Option.bind_some, LSt.put, Res.toFl, Fl.seq, sBin, sUn, Res.bind, opt, mul_ok, addI, subI, negI, zSet, zRet, zRetN, zNext, zDrop, Fl.fr, eqI, neI, leI, ltI, sC, sTst, blD, sTru, truD, sNot, sAnd, sOr, sIf, zIf, sCons, sNil, sTup, sLst, sFrz, sBlt, sCall, sMth, frRes, LSt.withG, EV.d, CO.d, sAttr, fldD, sAndV, notD, sChain, zPar, zPar3, zAug, i2, lenD, absD, Dx.intD, tupD,
    Bool.not_true, Bool.not_false, Bool.false_eq_true, List.getElem?_cons_zero, List.getElem?_cons_succ, List.set_cons_zero, List.set_cons_succ, List.length_cons, List.length_nil, Nat.reduceAdd, reduceIte]
end
/-! ### the law at one prime -/
theorem sm_le {M : Int} : ∀ (n : Nat) (h : Int → Int), (∀ x, h x ≤ M) → sm n h ≤ n * M
  | 0, _, _ => by
    unfold sm
    omega
  | n + 1, h, k => by
    have q := sm_le n h k
    have kn := k n
    have e : ((n + 1 : Nat) : Int) * M = n * M + M := by
      rw [Int.natCast_add, Int.add_mul]
      omega
    unfold sm
    rw [e]
    omega
theorem ind_le (b : Bool) : ind b ≤ 1 := by
  unfold ind
  split <;> omega
theorem cnt_bd {a1 a2 a3 a4 a6 : Int} {p : Nat} (h : p < 100) : Bd 20000 ((p : Int) - cnt p a1 a2 a3 a4 a6) := by
  have l0 : 0 ≤ cnt p a1 a2 a3 a4 a6 := (sm_nn p _ fun x => (sm_nn p _ fun y => ind_nn _).1).1
  have l1 : cnt p a1 a2 a3 a4 a6 ≤ p * (p * 1) := sm_le p _ fun x => sm_le p _ fun y => ind_le _
  have l2 : (p : Int) * (p * 1) ≤ 99 * 99 := by
    have : p * p ≤ 99 * 99 := Nat.mul_le_mul (by omega) (by omega)
    have e : ((p * p : Nat) : Int) = (p : Int) * (p * 1) := by rw [Int.natCast_mul, Int.mul_one]
    rw [← e]
    omega
  exact ⟨by omega⟩
theorem n_gg : neD (.str "good") (.str "good") = some (.bl false) := by kernel_rfl
theorem n_cc : neD (.str "cusp") (.str "cusp") = some (.bl false) := by kernel_rfl
theorem n_nn : neD (.str "node") (.str "node") = some (.bl false) := by kernel_rfl
theorem n_cg : neD (.str "cusp") (.str "good") = some (.bl true) := by kernel_rfl
theorem n_ng : neD (.str "node") (.str "good") = some (.bl true) := by kernel_rfl
theorem e_gg : eqD (.str "good") (.str "good") = some (.bl true) := by kernel_rfl
theorem e_cg : eqD (.str "cusp") (.str "good") = some (.bl false) := by kernel_rfl
theorem e_ng : eqD (.str "node") (.str "good") = some (.bl false) := by kernel_rfl
theorem e_cn : eqD (.str "cusp") (.str "node") = some (.bl false) := by kernel_rfl
theorem e_nn : eqD (.str "node") (.str "node") = some (.bl true) := by kernel_rfl
theorem n_ii (i : Int) : neD (.int i) (.int i) = some (.bl false) := by
  rw [neI, decide_eq_true rfl]
  rfl
theorem n_bb (b : Bool) : neD (.bl b) (.bl b) = some (.bl false) := by cases b <;> rfl
section
variable {a1 a2 a3 a4 a6 : Int} {p : Nat} (g : G) (h1 : Bd 1000 a1) (h2 : Bd 1000 a2) (h3 : Bd 1000 a3) (h4 : Bd 1000 a4) (h6 : Bd 1000 a6) (h : P12 p) (gd : Good p a1 a2 a3 a4 a6) (x : Str)
include h1 h2 h3 h4 h6 h gd
theorem ev_at : m__law_at_right [Cu a1 a2 a3 a4 a6 x, P5 a1 a2 a3 a4 a6, .int p] g = .ok (.v (.bl true)) g := by
  show (b__law_at_right ⟨[.v (Cu a1 a2 a3 a4 a6 x), .v (P5 a1 a2 a3 a4 a6), .v (.int p), .un, .un], g⟩).fr = _
  have t1 := ev_trace_at g h1 h2 h3 h4 (a6 := a6) h x
  have t2 := ev_trace g h.pos h.lt h1 h2 h3 h4 (a6 := a6)
  have k1 := ev_kind_at g (a1 := a1) (a2 := a2) (a3 := a3) (a4 := a4) (a6 := a6) h x
  have k2 := ev_kind g h1 h2 h3 h4 h6 h
  have sg := ev_sing g h.pos h.lt h1 h2 h3 h4 (a6 := a6)
  have bc := cnt_bd h.lt (a1 := a1) (a2 := a2) (a3 := a3) (a4 := a4) (a6 := a6)
  obtain ⟨g1, g2, g3, g4⟩ := gd
  unfold kd at k1 k2
  unfold b__law_at_right
  by_cases d : dsc a1 a2 a3 a4 a6 % p = 0
  · have sT : decide (sng p a1 a2 a3 a4 a6 ≠ 0) = true := decide_eq_true (g1.mpr d)
    rw [if_neg (fun z => z d)] at k1 k2
    rw [sT] at sg
    by_cases e : sec a1 a2 a3 a4 % p = 0
    · rw [if_pos e] at k1 k2
      have c0 := g3 d e
      rw [c0, Int.sub_self] at t1 t2
      have ab : absD [.int 0] = some (.int 0) := rfl
      have ib : Dx.intD [.bl false] = some (.int 0) := rfl
      have e0 : eqD (.int 0) (.int 0) = some (.bl true) := rfl
      simp only [t1, t2, k1, k2, sg, tm3, tm4, n_ii, n_cc, n_cg, n_bb, e_cg, e_cn, ab, ib, e0, zSeq, sVar, LSt.put, Res.toFl, Fl.seq, sBin, Res.bind, opt, zRet, zNext, Fl.fr, sC, sTst, blD, sOr, zIf, sCons, sNil, sBlt, sCall, sMth, frRes, LSt.withG, EV.d, zPar,
        Bool.false_eq_true, List.getElem?_cons_zero, List.getElem?_cons_succ, List.set_cons_zero, List.set_cons_succ, reduceIte]
    · rw [if_neg e] at k1 k2
      have ab1 : absD [.int 1] = some (.int 1) := rfl
      have ab2 : absD [.int (-1)] = some (.int 1) := rfl
      have ib : Dx.intD [.bl true] = some (.int 1) := rfl
      have e0 : eqD (.int 1) (.int 1) = some (.bl true) := rfl
      rcases g4 d e with c0 | c0
      · rw [c0, show (p : Int) - (p + 1) = -1 by omega] at t1 t2
        simp only [t1, t2, k1, k2, sg, tm3, tm4, n_ii, n_nn, n_ng, n_bb, e_ng, e_nn, ab1, ab2, ib, e0, zSeq, sVar, LSt.put, Res.toFl, Fl.seq, sBin, Res.bind, opt, zRet, zNext, Fl.fr, sC, sTst, blD, sOr, zIf, sCons, sNil, sBlt, sCall, sMth, frRes, LSt.withG, EV.d, zPar,
          Bool.false_eq_true, List.getElem?_cons_zero, List.getElem?_cons_succ, List.set_cons_zero, List.set_cons_succ, reduceIte]
      · rw [show (p : Int) - cnt p a1 a2 a3 a4 a6 = 1 by omega] at t1 t2
        simp only [t1, t2, k1, k2, sg, tm3, tm4, n_ii, n_nn, n_ng, n_bb, e_ng, e_nn, ab1, ab2, ib, e0, zSeq, sVar, LSt.put, Res.toFl, Fl.seq, sBin, Res.bind, opt, zRet, zNext, Fl.fr, sC, sTst, blD, sOr, zIf, sCons, sNil, sBlt, sCall, sMth, frRes, LSt.withG, EV.d, zPar,
          Bool.false_eq_true, List.getElem?_cons_zero, List.getElem?_cons_succ, List.set_cons_zero, List.set_cons_succ, reduceIte]
  · have sF : decide (sng p a1 a2 a3 a4 a6 ≠ 0) = false := decide_eq_false fun z => d (g1.mp z)
    rw [if_pos d] at k1 k2
    rw [sF] at sg
    have ha : decide (((p : Int) - cnt p a1 a2 a3 a4 a6) * (p - cnt p a1 a2 a3 a4 a6) ≤ 4 * p) = true := decide_eq_true (g2 d)
    generalize (p : Int) - cnt p a1 a2 a3 a4 a6 = T at *
    simp (disch := (apply mulOk_bd; (focus (repeat (first | assumption | apply Bd.mul | apply Bd.add | apply Bd.sub | apply Bd.neg | exact Bd.c _))); decide)) only [t1, t2, k1, k2, sg, tm3, tm4, n_ii, n_gg, n_bb, e_gg, ha, zSeq, sVar, LSt.put, Res.toFl, Fl.seq, sBin, Res.bind, opt, leI, mul_ok, zRet, zNext, Fl.fr, sC, sTst, blD, sOr, zIf, sCons, sNil, sBlt, sCall, sMth, frRes, LSt.withG, EV.d, zPar,
      Bool.false_eq_true, List.getElem?_cons_zero, List.getElem?_cons_succ, List.set_cons_zero, List.set_cons_succ, reduceIte]
end
/-! ### the dice -/
theorem gtI (i j : Int) : gtD (.int i) (.int j) = some (.bl (decide (j < i))) := rfl
theorem int1 (i : Int) : Dx.intD [.int i] = some (.int i) := rfl
theorem Bd.md (x m : Int) (h : 0 < m) : Bd m.natAbs (x % m) := ⟨by
  have h1 := Int.emod_nonneg x (b := m) (by omega)
  have h2 := Int.emod_lt_of_pos x h
  omega⟩
theorem div_ok {i j : Int} (h : 0 < j) (h2 : j.natAbs.log2 < 9000) : divD (.int i) (.int j) = some (.int (i / j)) := if_pos ⟨h, h2⟩
theorem ev_roll (t : Int × Int × Int) (n : Int) (h : 0 < n) (hn : n < 10000) : ∃ r t', m__law_roll [.dice, .int n] ⟨some t, none⟩ = .ok (.v (.int r)) ⟨some t', none⟩ ∧ 0 ≤ r ∧ r < n := by
  have sh : m__law_roll [.dice, .int n] ⟨some t, none⟩ = (b__law_roll ⟨[.v .dice, .v (.int n), .un, .un, .un], ⟨some t, none⟩⟩).fr := rfl
  have ln : n.natAbs.log2 < 14 := (Nat.log2_lt (by omega)).mpr (by omega)
  have dv : ∀ i : Int, divD (.int i) (.int n) = some (.int (i / n)) := fun i => div_ok h (by omega)
  have dv2 : ∀ i : Int, divD (.int i) (.int 131072) = some (.int (i / 131072)) := fun i => div_ok (by decide) (by decide +kernel)
  have m1 : ∀ i : Int, modD (.int i) (.int 2305843009213693613) = some (.int (i % 2305843009213693613)) := fun i => mod_ok (by decide)
  have m2 : ∀ i : Int, modD (.int i) (.int 2305843009213693669) = some (.int (i % 2305843009213693669)) := fun i => mod_ok (by decide)
  rw [sh]
  unfold b__law_roll
  by_cases d : 0 < t.1
  · refine ⟨t.1 % n, (t.1 / n, t.2.1, t.2.2), ?_, Int.emod_nonneg _ (by omega), Int.emod_lt_of_pos _ h⟩
    simp only [sDie, zDie, nth3, set3, LSt.withD, gtI, int1, d, decide_true, mod_ok h, dv, zSeq, zAsg, sVar, gTupD, gsCons, gSet, gsNil, optF, Option.bind_some, LSt.put, Res.toFl, Fl.seq, sBin, sUn, Res.bind, opt, mul_ok, addI, subI, negI, zSet, zRet, zRetN, zNext, zDrop, Fl.fr, eqI, neI, leI, ltI, sC, sTst, blD, sTru, truD, sNot, sAnd, sOr, sIf, zIf, sCons, sNil, sTup, sLst, sFrz, sBlt, sCall, sMth, frRes, LSt.withG, EV.d, CO.d, sAttr, fldD, sAndV, notD, sChain, zPar, zPar3, zAug, i2, lenD, absD, Dx.intD, tupD,
    Bool.not_true, Bool.not_false, Bool.false_eq_true, List.getElem?_cons_zero, List.getElem?_cons_succ, List.set_cons_zero, List.set_cons_succ, List.length_cons, List.length_nil, Nat.reduceAdd, reduceIte]
  · have ma : ∀ i : Int, mulD (.int 86028157) (.int i) = some (.int (86028157 * i)) := fun i => mul_ok (mulOk_bd (Bd.c _) (by decide))
    have mb : ∀ i : Int, mulD (.int 97) (.int i) = some (.int (97 * i)) := fun i => mul_ok (mulOk_bd (Bd.c _) (by decide))
    have mc : ∀ i : Int, mulD (.int (i % 2305843009213693613)) (.int (i % 2305843009213693613)) = some (.int ((i % 2305843009213693613) * (i % 2305843009213693613))) := fun i => mul_ok (mulOk_bd (Bd.md _ _ (by decide)) (by decide))
    have me : ∀ i : Int, mulD (.int (i % 2305843009213693669)) (.int 7654321) = some (.int ((i % 2305843009213693669) * 7654321)) := fun i => mul_ok (mulOk_bd (Bd.md _ _ (by decide)) (by decide))
    refine ⟨(((((t.2.1 + 86028157 * (t.2.2 + 1)) % 2305843009213693613) * ((t.2.1 + 86028157 * (t.2.2 + 1)) % 2305843009213693613) + 97 * (t.2.2 + 1)) % 2305843009213693669 * 7654321 + ((t.2.1 + 86028157 * (t.2.2 + 1)) % 2305843009213693613)) / 131072) % n, (t.1, t.2.1, t.2.2 + 1), ?_, Int.emod_nonneg _ (by omega), Int.emod_lt_of_pos _ h⟩
    simp only [sDie, zDie, nth3, set3, LSt.withD, gtI, int1, d, decide_false, mod_ok h, dv2, m1, m2, ma, mb, mc, me, zSeq, sVar, LSt.put, Res.toFl, Fl.seq, sBin, Res.bind, opt, addI, zSet, zRet, zNext, Fl.fr, sC, sTst, blD, zIf, sCons, sNil, sBlt,
      Bool.false_eq_true, List.getElem?_cons_zero, List.getElem?_cons_succ, List.set_cons_zero, List.set_cons_succ, reduceIte]
theorem ev_pick (t : Int × Int × Int) (ds : List D) (h0 : ds ≠ []) (hl : ds.length < 10000) : ∃ d t', m__law_pick [.dice, .lst ds] ⟨some t, none⟩ = .ok (.v d) ⟨some t', none⟩ ∧ d ∈ ds := by
  have hp : 0 < ds.length := List.length_pos_iff.mpr h0
  obtain ⟨r, t', e, r0, r1⟩ := ev_roll t (ds.length : Nat) (by omega) (by omega)
  have sh : m__law_pick [.dice, .lst ds] ⟨some t, none⟩ = (b__law_pick ⟨[.v .dice, .v (.lst ds)], ⟨some t, none⟩⟩).fr := rfl
  have hr : r.toNat < ds.length := by omega
  have ix : ixD (.lst ds) (.int r) = some ds[r.toNat] := by
    show atD ds r = _
    unfold atD
    rw [if_pos r0, List.getElem?_eq_getElem hr]
  refine ⟨ds[r.toNat], t', ?_, List.getElem_mem hr⟩
  rw [sh]
  unfold b__law_pick
  simp only [e, ix, zRet, sBin, sVar, sCall, sCons, sNil, sBlt, lenD, opt, Res.bind, Res.toFl, Fl.fr, LSt.withG, EV.d, List.getElem?_cons_zero, List.getElem?_cons_succ]
/-- five rolls -/
theorem comp_roll (n c : Int) (h : 0 < n) (hn : n < 10000) (j : Nat) (l0 : List Slot) (d0 : l0[0]? = some (.v .dice)) (hj0 : j ≠ 0) (un : l0[j]? = some .un) : ∀ (ds acc : List D) (t : Int × Int × Int), acc.length + ds.length < 100 →
    ∃ es t', compLoop (gSet j) sYes (sBin subD (sCall m__law_roll (sCons (sVar 0) (sCons (sC (.int n)) sNil))) (sC (.int c))) [j] ds acc ⟨l0, ⟨some t, none⟩⟩ = .ok (.lst (acc ++ es)) ⟨l0, ⟨some t', none⟩⟩ ∧
      es.length = ds.length ∧ ∀ e, e ∈ es → ∃ r : Int, e = .int (r - c) ∧ 0 ≤ r ∧ r < n
  | [], acc, t, _ => ⟨[], t, by simp [compLoop], rfl, fun e he => by cases he⟩
  | d :: ds, acc, t, hl => by
    have hj : j < l0.length := (List.getElem?_eq_some_iff.mp un).1
    obtain ⟨r, t1, e, r0, r1⟩ := ev_roll t n h hn
    rw [List.length_cons] at hl
    obtain ⟨es, t', e2, e3, e4⟩ := comp_roll n c h hn j l0 d0 hj0 un ds (acc ++ [.int (r - c)]) t1 (by rw [List.length_append, List.length_singleton]; omega)
    refine ⟨.int (r - c) :: es, t', ?_, by rw [List.length_cons, List.length_cons, e3], fun x hx => ?_⟩
    · have back : (l0.set j (.v d)).set j .un = l0 := by
        rw [List.set_set]
        apply List.ext_getElem?
        intro k
        by_cases hk : k = j
        · rw [hk, List.getElem?_set_self hj, un]
        · rw [List.getElem?_set_ne (Ne.symm hk)]
      have g0 : (l0.set j (.v d))[0]? = some (.v .dice) := by rw [List.getElem?_set_ne hj0, d0]
      have sz : acc.length < szL := by
        have : 100 ≤ szL := by decide
        omega
      unfold compLoop
      simp only [gSet, sYes, LSt.put, sBin, sCall, sCons, sVar, g0, sC, sNil, Res.bind, e, LSt.withG, EV.d, opt, subI, LSt.wipeL, back, sz, reduceIte]
      rw [e2, List.append_assoc]
      rfl
    · rcases List.mem_cons.mp hx with z | z
      · exact ⟨r, z, r0, r1⟩
      · exact e4 x z
theorem five {es : List D} {c n : Int} (hl : es.length = 5) (h : ∀ e, e ∈ es → ∃ r : Int, e = .int (r - c) ∧ 0 ≤ r ∧ r < n) (hc : 0 ≤ c ∧ c ≤ 1000) (hn : n ≤ c + 1001) :
    ∃ a1 a2 a3 a4 a6, es = [.int a1, .int a2, .int a3, .int a4, .int a6] ∧ Bd 1000 a1 ∧ Bd 1000 a2 ∧ Bd 1000 a3 ∧ Bd 1000 a4 ∧ Bd 1000 a6 := by
  match es, hl, h with
  | [x1, x2, x3, x4, x5], _, h =>
    obtain ⟨r1, e1, k1, m1⟩ := h x1 (by simp)
    obtain ⟨r2, e2, k2, m2⟩ := h x2 (by simp)
    obtain ⟨r3, e3, k3, m3⟩ := h x3 (by simp)
    obtain ⟨r4, e4, k4, m4⟩ := h x4 (by simp)
    obtain ⟨r5, e5, k5, m5⟩ := h x5 (by simp)
    subst e1 e2 e3 e4 e5
    exact ⟨_, _, _, _, _, rfl, ⟨by omega⟩, ⟨by omega⟩, ⟨by omega⟩, ⟨by omega⟩, ⟨by omega⟩⟩
theorem walk5 {l : LSt} : sWalk rng1D (sCons (sC (.int 5)) sNil) l = .ok (rangeD 0 5) l := rfl
theorem tup1 (ds : List D) : tupD [.lst ds] = some (.tup ds) := rfl
theorem ev_cubic (t : Int × Int × Int) : ∃ a1 a2 a3 a4 a6 t', m__law_hc_cubic [.dice] ⟨some t, none⟩ = .ok (.v (P5 a1 a2 a3 a4 a6)) ⟨some t', none⟩ ∧ Bd 1000 a1 ∧ Bd 1000 a2 ∧ Bd 1000 a3 ∧ Bd 1000 a4 ∧ Bd 1000 a6 := by
  have sh : m__law_hc_cubic [.dice] ⟨some t, none⟩ = (b__law_hc_cubic ⟨[.v .dice, .un, .un], ⟨some t, none⟩⟩).fr := rfl
  obtain ⟨r, t1, e, r0, r1⟩ := ev_roll t 3 (by decide) (by decide)
  have sz5 : 5 ≤ szL := by decide
  have sz6 : 6 ≤ szL := by decide
  rw [sh]
  unfold b__law_hc_cubic
  by_cases z : r = 0
  · obtain ⟨d, t2, e2, hd⟩ := ev_pick t1 [P5 0 (-1) 1 0 0, P5 1 0 1 (-1) 0, P5 0 0 1 (-1) 0, P5 0 0 0 (-1) 0, P5 0 0 1 0 0, P5 1 (-1) 0 (-2) (-1)] (by simp) (by simp)
    have w : ∃ a1 a2 a3 a4 a6, d = P5 a1 a2 a3 a4 a6 ∧ Bd 1000 a1 ∧ Bd 1000 a2 ∧ Bd 1000 a3 ∧ Bd 1000 a4 ∧ Bd 1000 a6 := by
      simp only [List.mem_cons, List.not_mem_nil, or_false] at hd
      rcases hd with rfl | rfl | rfl | rfl | rfl | rfl <;> exact ⟨_, _, _, _, _, rfl, ⟨by decide⟩, ⟨by decide⟩, ⟨by decide⟩, ⟨by decide⟩, ⟨by decide⟩⟩
    obtain ⟨a1, a2, a3, a4, a6, rfl, k⟩ := w
    refine ⟨a1, a2, a3, a4, a6, t2, ?_, k⟩
    simp only [e, z, e2, sz5, sz6, decide_true, zSeq, zAsg, sVar, gTupD, gsCons, gSet, gsNil, optF, Option.bind_some, LSt.put, Res.toFl, Fl.seq, sBin, sUn, Res.bind, opt, mul_ok, addI, subI, negI, zSet, zRet, zRetN, zNext, zDrop, Fl.fr, eqI, neI, leI, ltI, sC, sTst, blD, sTru, truD, sNot, sAnd, sOr, sIf, zIf, sCons, sNil, sTup, sLst, sFrz, sBlt, sCall, sMth, frRes, LSt.withG, EV.d, CO.d, sAttr, fldD, sAndV, notD, sChain, zPar, zPar3, zAug, i2, lenD, absD, Dx.intD, tupD,
    Bool.not_true, Bool.not_false, Bool.false_eq_true, List.getElem?_cons_zero, List.getElem?_cons_succ, List.set_cons_zero, List.set_cons_succ, List.length_cons, List.length_nil, Nat.reduceAdd, reduceIte]
  · obtain ⟨es, t2, e2, e3, e4⟩ := comp_roll 7 3 (by decide) (by decide) 2 [.v .dice, .v (.lst [P5 0 (-1) 1 0 0, P5 1 0 1 (-1) 0, P5 0 0 1 (-1) 0, P5 0 0 0 (-1) 0, P5 0 0 1 0 0, P5 1 (-1) 0 (-2) (-1)]), .un] rfl (by decide) rfl (rangeD 0 5) [] t1 (by decide)
    obtain ⟨a1, a2, a3, a4, a6, rfl, k⟩ := five e3 e4 (by decide) (by decide)
    refine ⟨a1, a2, a3, a4, a6, t2, ?_, k⟩
    simp only [sComp, walk5, LSt.wipeL, e, z, e2, sz5, sz6, tup1, List.nil_append, decide_false, zSeq, zSet, zIf, zRet, zNext, Res.toFl, Fl.seq, Fl.fr, sBin, sUn, sVar, sC, sTst, blD, sCons, sNil, sTup, sLst, sFrz, sBlt, sCall, opt, Res.bind, LSt.withG, LSt.put, EV.d, CO.d, negI, eqI,
      Bool.false_eq_true, List.getElem?_cons_zero, List.getElem?_cons_succ, List.set_cons_zero, List.set_cons_succ, List.length_cons, List.length_nil, Nat.reduceAdd, reduceIte]
/-! ### one cell -/
theorem seq_nx {a b : LSt → Fl} {l l1 : LSt} (h : a l = .nx l1) : zSeq a b l = b l1 := by
  unfold zSeq
  rw [h]
  rfl
theorem good_of {p : Nat} (h : P12 p) (a1 a2 a3 a4 a6 : Int) : Good p a1 a2 a3 a4 a6 := by
  unfold P12 at h
  rcases h with rfl | rfl | rfl | rfl | rfl | rfl | rfl | rfl | rfl | rfl | rfl | rfl
  · exact good2 ..
  · exact good3 ..
  · exact good5 ..
  · exact good7 ..
  · exact good11 ..
  · exact good13 ..
  · exact good17 ..
  · exact good19 ..
  · exact good23 ..
  · exact good29 ..
  · exact good31 ..
  · exact good37 ..
theorem tp1 : tp_discriminant 0 = some m_Cubic_discriminant := rfl
theorem tp2 : tp_second 0 = some m_Cubic_second := rfl
theorem ev_disc (d : Int) (d2 d3 d4 : D) (g : G) : m_Cubic_discriminant [.ins 0 [.int d, d2, d3, d4]] g = .ok (.v (.int d)) g := rfl
theorem ev_sec (s : Int) (d2 d3 d4 : D) (g : G) : m_Cubic_second [.ins 0 [d2, d3, .int s, d4]] g = .ok (.v (.int s)) g := rfl
theorem n_tt (d s : Int) : neD (.tup [.int d, .int s]) (.tup [.int d, .int s]) = some (.bl false) := by
  show some (D.bl (!((d == d) && ((s == s) && true)))) = _
  simp
theorem e_nil : eqD (.lst []) (.lst []) = some (.bl true) := rfl
section
variable {a1 a2 a3 a4 a6 : Int} (h1 : Bd 1000 a1) (h2 : Bd 1000 a2) (h3 : Bd 1000 a3) (h4 : Bd 1000 a4) (h6 : Bd 1000 a6)
theorem ix0 : ixD (P5 a1 a2 a3 a4 a6) (.int 0) = some (.int a1) := rfl
theorem ix1 : ixD (P5 a1 a2 a3 a4 a6) (.int 1) = some (.int a2) := rfl
theorem ix2 : ixD (P5 a1 a2 a3 a4 a6) (.int 2) = some (.int a3) := rfl
theorem ix3 : ixD (P5 a1 a2 a3 a4 a6) (.int 3) = some (.int a4) := rfl
theorem ix4 : ixD (P5 a1 a2 a3 a4 a6) (.int 4) = some (.int a6) := rfl
include h1 h2 h3 h4 h6
theorem ri_cf (x : Str) (g : G) (s2 : Slot) (ps : List Nat) (hp : ∀ p, p ∈ ps → P12 p) (hl : ps.length < 100) :
    compLoop (gSet 5) (sNot (sTru (sCall m__law_at_right (sCons (sVar 3) (sCons (sVar 1) (sCons (sVar 5) sNil)))))) (sVar 5) [5] (ps.map fun p : Nat => D.int (p : Int)) []
      ⟨[.v .dice, .v (P5 a1 a2 a3 a4 a6), s2, .v (Cu a1 a2 a3 a4 a6 x), .v (.lst (ps.map fun p : Nat => D.int (p : Int))), .un], g⟩ =
    .ok (.lst []) ⟨[.v .dice, .v (P5 a1 a2 a3 a4 a6), s2, .v (Cu a1 a2 a3 a4 a6 x), .v (.lst (ps.map fun p : Nat => D.int (p : Int))), .un], g⟩ := by
  have sz : 100 ≤ szL := by decide
  refine (comp_filter (fun _ => false) rfl _ [] (by rw [List.length_map, List.length_nil]; omega) (fun d hd => ?_)).trans ?_
  · obtain ⟨p, hm, rfl⟩ := List.mem_map.mp hd
    have e := ev_at g h1 h2 h3 h4 h6 (hp p hm) (good_of (hp p hm) a1 a2 a3 a4 a6) x
    simp only [e, zSeq, zAsg, sVar, gTupD, gsCons, gSet, gsNil, optF, Option.bind_some, LSt.put, Res.toFl, Fl.seq, sBin, sUn, Res.bind, opt, mul_ok, addI, subI, negI, zSet, zRet, zRetN, zNext, zDrop, Fl.fr, eqI, neI, leI, ltI, sC, sTst, blD, sTru, truD, sNot, sAnd, sOr, sIf, zIf, sCons, sNil, sTup, sLst, sFrz, sBlt, sCall, sMth, frRes, LSt.withG, EV.d, CO.d, sAttr, fldD, sAndV, notD, sChain, zPar, zPar3, zAug, i2, lenD, absD, Dx.intD, tupD,
    Bool.not_true, Bool.not_false, Bool.false_eq_true, List.getElem?_cons_zero, List.getElem?_cons_succ, List.set_cons_zero, List.set_cons_succ, List.length_cons, List.length_nil, Nat.reduceAdd, reduceIte]
  · rw [List.nil_append, List.filter_eq_nil_iff.mpr fun _ _ => by decide]
theorem ri_tail (t : Int × Int × Int) : ∃ t', ((zSeq (zSet 3 (sCall (mkC 0 i_Cubic) (sCons (sBin ixD (sVar 1) (sC (.int (0)))) (sCons (sBin ixD (sVar 1) (sC (.int (1)))) (sCons (sBin ixD (sVar 1) (sC (.int (2)))) (sCons (sBin ixD (sVar 1) (sC (.int (3)))) (sCons (sBin ixD (sVar 1) (sC (.int (4)))) sNil)))))))
    (zSeq (zIf (sTst (sBin neD (sTup (sCons (sPrp tp_discriminant (sVar 3)) (sCons (sPrp tp_second (sVar 3)) sNil))) (sCall m__law_hc_numbers (sCons (sVar 1) sNil)))) (zRet (sC (.bl false))) zNext)
    (zSeq (zSet 4 (sFrz (sLst (sCons (sC (.int (2))) (sCons (sC (.int (3))) (sCons (sCall m__law_pick (sCons (sVar 0) (sCons (sFrz (sLst (sCons (sC (.int (5))) (sCons (sC (.int (7))) (sCons (sC (.int (11))) (sCons (sC (.int (13))) sNil)))))) sNil))) (sCons (sCall m__law_pick (sCons (sVar 0) (sCons (sFrz (sLst (sCons (sC (.int (17))) (sCons (sC (.int (19))) (sCons (sC (.int (23))) (sCons (sC (.int (29))) (sCons (sC (.int (31))) (sCons (sC (.int (37))) sNil)))))))) sNil))) sNil)))))))
    (zRet (sBin eqD (sFrz (sComp (sItems (sVar 4)) (gSet 5) (sNot (sTru (sCall m__law_at_right (sCons (sVar 3) (sCons (sVar 1) (sCons (sVar 5) sNil)))))) (sVar 5) [5])) (sFrz (sLst sNil))))))) ⟨[.v .dice, .v (P5 a1 a2 a3 a4 a6), .un, .un, .un, .un], ⟨some t, none⟩⟩).fr = .ok (.v (.bl true)) ⟨some t', none⟩ := by
  obtain ⟨x, mk⟩ := ev_make ⟨some t, none⟩ h1 h2 h3 h4 h6
  have nm := ev_numbers ⟨some t, none⟩ h1 h2 h3 h4 h6
  obtain ⟨d, t1, e1, hd1⟩ := ev_pick t [.int 5, .int 7, .int 11, .int 13] (by simp) (by simp)
  obtain ⟨d', t2, e2, hd2⟩ := ev_pick t1 [.int 17, .int 19, .int 23, .int 29, .int 31, .int 37] (by simp) (by simp)
  have w1 : ∃ p : Nat, d = .int (p : Int) ∧ P12 p := by
    simp only [List.mem_cons, List.not_mem_nil, or_false] at hd1
    unfold P12
    rcases hd1 with rfl | rfl | rfl | rfl
    · exact ⟨5, rfl, by omega⟩
    · exact ⟨7, rfl, by omega⟩
    · exact ⟨11, rfl, by omega⟩
    · exact ⟨13, rfl, by omega⟩
  have w2 : ∃ p : Nat, d' = .int (p : Int) ∧ P12 p := by
    simp only [List.mem_cons, List.not_mem_nil, or_false] at hd2
    unfold P12
    rcases hd2 with rfl | rfl | rfl | rfl | rfl | rfl
    · exact ⟨17, rfl, by omega⟩
    · exact ⟨19, rfl, by omega⟩
    · exact ⟨23, rfl, by omega⟩
    · exact ⟨29, rfl, by omega⟩
    · exact ⟨31, rfl, by omega⟩
    · exact ⟨37, rfl, by omega⟩
  obtain ⟨p, rfl, hp⟩ := w1
  obtain ⟨q, rfl, hq⟩ := w2
  have cf := ri_cf h1 h2 h3 h4 h6 x ⟨some t2, none⟩ .un [2, 3, p, q] (fun r hr => by
    simp only [List.mem_cons, List.not_mem_nil, or_false] at hr
    rcases hr with rfl | rfl | rfl | rfl
    · exact .inl rfl
    · exact .inr (.inl rfl)
    · exact hp
    · exact hq) (show 4 < 100 by decide)
  rw [show ([2, 3, p, q].map fun p : Nat => D.int (p : Int)) = [.int ((2 : Nat) : Int), .int ((3 : Nat) : Int), .int (p : Int), .int (q : Int)] from rfl] at cf
  have c2 : ((2 : Nat) : Int) = 2 := rfl
  have c3 : ((3 : Nat) : Int) = 3 := rfl
  rw [c2, c3] at cf
  have sz0 : 0 ≤ szL := Nat.zero_le _
  have sz2 : 2 ≤ szL := by decide
  have sz4 : 4 ≤ szL := by decide
  have sz6 : 6 ≤ szL := by decide
  refine ⟨t2, ?_⟩
  simp only [mk, nm, e1, e2, cf, sz0, sz2, sz4, sz6, ix0, ix1, ix2, ix3, ix4, tp1, tp2, ev_disc, ev_sec, n_tt, e_nil, sPrp, sComp, sItems, seqD, LSt.wipeL, zSeq, zSet, zIf, zRet, zNext, Res.toFl, Fl.seq, Fl.fr, sBin, sVar, sC, sTst, blD, sCons, sNil, sTup, sLst, sFrz, sCall, opt, Res.bind, LSt.withG, LSt.put, EV.d, CO.d,
    Bool.false_eq_true, List.getElem?_cons_zero, List.getElem?_cons_succ, List.set_cons_zero, List.set_cons_succ, List.length_cons, List.length_nil, Nat.reduceAdd, reduceIte]
end
theorem ev_right (t : Int × Int × Int) : ∃ t', m__law_right [.dice] ⟨some t, none⟩ = .ok (.v (.bl true)) ⟨some t', none⟩ := by
  have sh : m__law_right [.dice] ⟨some t, none⟩ = (b__law_right ⟨[.v .dice, .un, .un, .un, .un, .un], ⟨some t, none⟩⟩).fr := rfl
  obtain ⟨a1, a2, a3, a4, a6, t1, e1, h1, h2, h3, h4, h6⟩ := ev_cubic t
  obtain ⟨r, t2, e2, _, _⟩ := ev_roll t1 3 (by decide) (by decide)
  rw [sh]
  unfold b__law_right
  by_cases z : r = 0
  · obtain ⟨es, t3, e3, e4, e5⟩ := comp_roll 2001 1000 (by decide) (by decide) 2 [.v .dice, .v (P5 a1 a2 a3 a4 a6), .un, .un, .un, .un] rfl (by decide) rfl (rangeD 0 5) [] t2 (by decide)
    obtain ⟨c1, c2, c3, c4, c6, rfl, k1, k2, k3, k4, k6⟩ := five e4 e5 (by decide) (by decide)
    obtain ⟨t', q⟩ := ri_tail k1 k2 k3 k4 k6 t3
    refine ⟨t', Eq.trans ?_ q⟩
    congr 1
    refine (seq_nx (l1 := ⟨[.v .dice, .v (P5 a1 a2 a3 a4 a6), .un, .un, .un, .un], ⟨some t1, none⟩⟩) ?_).trans (seq_nx ?_)
    · simp only [e1, zSet, zIf, zNext, Res.toFl, Fl.seq, sBin, sVar, sC, sTst, blD, sCons, sNil, sFrz, sBlt, sCall, opt, Res.bind, LSt.withG, LSt.put, EV.d, CO.d, eqI,
      Bool.false_eq_true, List.getElem?_cons_zero, List.getElem?_cons_succ, List.set_cons_zero, List.set_cons_succ, reduceIte]
    · simp only [sComp, walk5, LSt.wipeL, e2, z, e3, tup1, List.nil_append, decide_true, zSet, zIf, zNext, Res.toFl, Fl.seq, sBin, sVar, sC, sTst, blD, sCons, sNil, sFrz, sBlt, sCall, opt, Res.bind, LSt.withG, LSt.put, EV.d, CO.d, eqI,
      Bool.false_eq_true, List.getElem?_cons_zero, List.getElem?_cons_succ, List.set_cons_zero, List.set_cons_succ, reduceIte]
  · obtain ⟨t', q⟩ := ri_tail h1 h2 h3 h4 h6 t2
    refine ⟨t', Eq.trans ?_ q⟩
    congr 1
    refine (seq_nx (l1 := ⟨[.v .dice, .v (P5 a1 a2 a3 a4 a6), .un, .un, .un, .un], ⟨some t1, none⟩⟩) ?_).trans (seq_nx ?_)
    · simp only [e1, zSet, zIf, zNext, Res.toFl, Fl.seq, sBin, sVar, sC, sTst, blD, sCons, sNil, sFrz, sBlt, sCall, opt, Res.bind, LSt.withG, LSt.put, EV.d, CO.d, eqI,
      Bool.false_eq_true, List.getElem?_cons_zero, List.getElem?_cons_succ, List.set_cons_zero, List.set_cons_succ, reduceIte]
    · simp only [e2, z, decide_false, zSet, zIf, zNext, Res.toFl, Fl.seq, sBin, sVar, sC, sTst, blD, sCons, sNil, sFrz, sBlt, sCall, opt, Res.bind, LSt.withG, LSt.put, EV.d, CO.d, eqI,
      Bool.false_eq_true, List.getElem?_cons_zero, List.getElem?_cons_succ, List.set_cons_zero, List.set_cons_succ, reduceIte]
/-! ### the law -/
theorem p60 : powD (.int 10) (.int 60) = some (.int 1000000000000000000000000000000000000000000000000000000000000) := by kernel_rfl
theorem p57 : powD (.int 10) (.int 57) = some (.int 1000000000000000000000000000000000000000000000000000000000) := by kernel_rfl
theorem p17 : powD (.int 10) (.int 17) = some (.int 100000000000000000) := by kernel_rfl
theorem big : mulD (.int 1000000000000000000000000000000000000000000000000000000000000) (.int 1000000000000000000000000000000000000000000000000000000000) = some (.int 1000000000000000000000000000000000000000000000000000000000000000000000000000000000000000000000000000000000000000000000) := by kernel_rfl
theorem ab1 (i : Int) : absD [.int i] = some (.int (if i < 0 then -i else i)) := rfl
theorem mx1 (i j : Int) : maxD [.int i, .int j] = some (.int (if j > i then j else i)) := rfl
theorem mi1 (i j : Int) : minD [.int i, .int j] = some (.int (if j < i then j else i)) := rfl
theorem int2 (b : Bool) : Dx.intD [.bl b] = some (.int (if b = true then 1 else 0)) := rfl
theorem len_scr (ns : List Int) : lenD [.scr ns] = some (.int (ns.length : Nat)) := rfl
theorem ev_dice (ns : List Int) (k : Nat) (g : G) : ∃ x y z, m__law_dice [.scr ns, .int (0 + (k : Int))] g = .ok (.o (.lst [.int x, .int y, .int z])) g := by
  have sh : m__law_dice [.scr ns, .int (0 + (k : Int))] g = (b__law_dice ⟨[.v (.scr ns), .v (.int (0 + (k : Int))), .un, .un], g⟩).fr := rfl
  have sz3 : 3 ≤ szL := by decide
  have m1 : ∀ i : Int, modD (.int i) (.int 1152921504606846803) = some (.int (i % 1152921504606846803)) := fun i => mod_ok (by decide)
  have m2 : ∀ i : Int, modD (.int i) (.int 1000000000000000000000000000000000000000000000000000000000000000000000000000000000000000000000000000000000000000000000) = some (.int (i % 1000000000000000000000000000000000000000000000000000000000000000000000000000000000000000000000000000000000000000000000)) := fun i => mod_ok (by decide)
  have ma : ∀ i : Int, mulD (.int (i % 1152921504606846803)) (.int 59) = some (.int ((i % 1152921504606846803) * 59)) := fun i => mul_ok (mulOk_bd (Bd.md _ _ (by decide)) (by decide))
  have mb : ∀ i : Int, mulD (.int 877) (.int i) = some (.int (877 * i)) := fun i => mul_ok (mulOk_bd (Bd.c _) (by decide))
  have mc : ∀ i : Int, mulD (.int 47) (.int i) = some (.int (47 * i)) := fun i => mul_ok (mulOk_bd (Bd.c _) (by decide))
  have me : ∀ i : Int, mulD (.int 71) (.int i) = some (.int (71 * i)) := fun i => mul_ok (mulOk_bd (Bd.c _) (by decide))
  have cell : ∃ c : Int, sIf (sTst (sBin ltD (sVar 1) (sBlt lenD (sCons (sVar 0) sNil)))) (sBlt Dx.intD (sCons (sBin ixD (sVar 0) (sVar 1)) sNil)) (sBin addD (sBin mulD (sC (.int (71))) (sVar 1)) (sC (.int (23)))) ⟨[.v (.scr ns), .v (.int (0 + (k : Int))), .un, .un], g⟩ =
      .ok (.int c) ⟨[.v (.scr ns), .v (.int (0 + (k : Int))), .un, .un], g⟩ := by
    by_cases h : 0 + (k : Int) < (ns.length : Nat)
    · have ix : ixD (.scr ns) (.int (0 + (k : Int))) = some (.int (ns[k]'(by omega))) := by
        show (atD ns (0 + (k : Int))).map D.int = _
        unfold atD
        rw [if_pos (by omega), show (0 + (k : Int)).toNat = k by omega, List.getElem?_eq_getElem (by omega)]
        rfl
      refine ⟨ns[k]'(by omega), ?_⟩
      simp only [ix, len_scr, int1, h, decide_true, ltI, sIf, sTst, blD, sBin, sVar, sBlt, sCons, sNil, opt, Res.bind, List.getElem?_cons_zero, List.getElem?_cons_succ, reduceIte]
    · refine ⟨71 * (0 + (k : Int)) + 23, ?_⟩
      simp only [me, addI, sC, len_scr, h, decide_false, ltI, sIf, sTst, blD, sBin, sVar, sBlt, sCons, sNil, opt, Res.bind, Bool.false_eq_true, List.getElem?_cons_zero, List.getElem?_cons_succ, reduceIte]
  obtain ⟨c, ec⟩ := cell
  rw [sh]
  unfold b__law_dice
  refine ⟨(if (if c < 0 then -c else c) - 100000000000000000 > 0 then (if c < 0 then -c else c) - 100000000000000000 else 0) % 1000000000000000000000000000000000000000000000000000000000000000000000000000000000000000000000000000000000000000000000, (if c < 0 then -c else c) % 1152921504606846803 * 59 + 877 * (0 + (k : Int)) + 47 * (if decide (c < 0) = true then 1 else 0) + 5, 0, ?_⟩
  rw [seq_nx (l1 := ⟨[.v (.scr ns), .v (.int (0 + (k : Int))), .v (.int c), .un], g⟩) (by
    unfold zSet
    rw [ec]
    rfl)]
  simp only [zRetO, big, p60, p57, p17, ab1, mx1, int2, ltI, m1, m2, ma, mb, mc, addI, subI, sz3, zSeq, zSet, Res.toFl, Fl.seq, Fl.fr, sBin, sVar, sC, sCons, sNil, sLst, sBlt, opt, Res.bind, LSt.put,
    List.getElem?_cons_zero, List.getElem?_cons_succ, List.set_cons_zero, List.set_cons_succ, List.length_cons, List.length_nil, Nat.reduceAdd, reduceIte]
theorem ev_lend (ns : List Int) (s1 : Slot) (x y z : Int) : ∃ x' y' z' : Int, sLend 2 m__law_right sNil ⟨[.v (.scr ns), s1, .own (.lst [.int x, .int y, .int z]), .un, .un, .un], ⟨none, none⟩⟩ =
    .ok (.bl true) ⟨[.v (.scr ns), s1, .own (.lst [.int x', .int y', .int z']), .un, .un, .un], ⟨none, none⟩⟩ := by
  obtain ⟨⟨x', y', z'⟩, e⟩ := ev_right (x, y, z)
  refine ⟨x', y', z', ?_⟩
  show lendRes 2 ⟨[.v (.scr ns), s1, .own (.lst [.int x, .int y, .int z]), .un, .un, .un], ⟨none, none⟩⟩ (m__law_right [.dice] ⟨some (x, y, z), none⟩) = _
  rw [e]
  rfl
def b_tail : LSt → Fl := (zSeq (zAsg (sTup (sCons (sCall (mkC 0 i_Cubic) (sCons (sC (.int (0))) (sCons (sUn negD (sC (.int (1)))) (sCons (sC (.int (1))) (sCons (sC (.int (0))) (sCons (sC (.int (0))) sNil)))))) (sCons (sCall (mkC 0 i_Cubic) (sCons (sC (.int (0))) (sCons (sC (.int (0))) (sCons (sC (.int (1))) (sCons (sUn negD (sC (.int (1)))) (sCons (sC (.int (0))) sNil)))))) sNil))) (gTupD 2 (gsCons (gSet 3) (gsCons (gSet 4) gsNil))))
    (zSeq (zIf (sTst (sBin neD (sFrz (sComp (sItems (sTup (sCons (sC (.int (2))) (sCons (sC (.int (3))) (sCons (sC (.int (5))) (sCons (sC (.int (7))) (sCons (sC (.int (11))) (sCons (sC (.int (13))) sNil)))))))) (gSet 5) sYes (sMth tm_trace_at (sVar 3) (sCons (sVar 5) sNil)) [5])) (sFrz (sLst (sCons (sUn negD (sC (.int (2)))) (sCons (sUn negD (sC (.int (1)))) (sCons (sC (.int (1))) (sCons (sUn negD (sC (.int (2)))) (sCons (sC (.int (1))) (sCons (sC (.int (4))) sNil)))))))))) (zRet (sC (.bl false))) zNext)
    (zSeq (zIf (sTst (sBin neD (sFrz (sComp (sItems (sTup (sCons (sC (.int (2))) (sCons (sC (.int (3))) (sCons (sC (.int (5))) (sCons (sC (.int (7))) (sCons (sC (.int (37))) sNil))))))) (gSet 5) sYes (sMth tm_trace_at (sVar 4) (sCons (sVar 5) sNil)) [5])) (sFrz (sLst (sCons (sUn negD (sC (.int (2)))) (sCons (sUn negD (sC (.int (3)))) (sCons (sUn negD (sC (.int (2)))) (sCons (sUn negD (sC (.int (1)))) (sCons (sUn negD (sC (.int (1)))) sNil))))))))) (zRet (sC (.bl false))) zNext)
    (zRet (sBin eqD (sFrz (sLst (sCons (sPrp tp_discriminant (sVar 3)) (sCons (sPrp tp_second (sVar 3)) (sCons (sMth tm_kind_at (sVar 3) (sCons (sC (.int (11))) sNil)) (sCons (sMth tm_kind_at (sCall (mkC 0 i_Cubic) (sCons (sC (.int (0))) (sCons (sC (.int (0))) (sCons (sC (.int (1))) (sCons (sC (.int (0))) (sCons (sC (.int (0))) sNil)))))) (sCons (sC (.int (3))) sNil)) sNil)))))) (sFrz (sLst (sCons (sUn negD (sC (.int (11)))) (sCons (sC (.int (16))) (sCons (sC (.str "node")) (sCons (sC (.str "cusp")) sNil)))))))))))
set_option maxHeartbeats 0 in
theorem ev_tail (ns : List Int) (s1 s2 : Slot) : (b_tail ⟨[.v (.scr ns), s1, s2, .un, .un, .un], ⟨none, none⟩⟩).fr = .ok (.v (.bl true)) ⟨none, none⟩ := by
  kernel_rfl
theorem plain (ns : List Int) (_hl : ns.length ≤ 63) : ∃ g, m_law [.scr ns] ⟨none, none⟩ = .ok (.v (.bl true)) g := by
  refine ⟨⟨none, none⟩, ?_⟩
  have sh : m_law [.scr ns] ⟨none, none⟩ = (b_law ⟨[.v (.scr ns), .un, .un, .un, .un, .un], ⟨none, none⟩⟩).fr := rfl
  have loop := for_range (t := gSet 1) (b := (zSeq (zSetO 2 (sCallO m__law_dice (sCons (sVar 0) (sCons (sVar 1) sNil))))
    (zIf (sOr (sNot (sTru (sLend 2 m__law_right sNil))) (sNot (sTru (sLend 2 m__law_right sNil)))) (zRet (sC (.bl false))) zNext)))
    (Inv := fun i l => ∃ s1 s2, l = ⟨[.v (.scr ns), s1, s2, .un, .un, .un], ⟨none, none⟩⟩) (max 1 (min 3 ns.length)) ⟨[.v (.scr ns), .un, .un, .un, .un, .un], ⟨none, none⟩⟩ ⟨.un, .un, rfl⟩ (fun i l _ ⟨s1, s2, e⟩ => by
      subst e
      obtain ⟨x, y, z, ed⟩ := ev_dice ns i ⟨none, none⟩
      obtain ⟨x1, y1, z1, e1⟩ := ev_lend ns (.v (.int (0 + (i : Int)))) x y z
      obtain ⟨x2, y2, z2, e2⟩ := ev_lend ns (.v (.int (0 + (i : Int)))) x1 y1 z1
      refine ⟨_, _, rfl, ?_, .v (.int (0 + (i : Int))), .own (.lst [.int x2, .int y2, .int z2]), rfl⟩
      simp only [ed, e1, e2, zSeq, zSetO, zIf, zNext, Res.toFl, Fl.seq, sCallO, sCons, sNil, sVar, sOr, sNot, sTru, truD, opt, Res.bind, LSt.put, LSt.withG, Bool.not_true, Bool.false_eq_true, List.getElem?_cons_zero, List.getElem?_cons_succ, List.set_cons_zero, List.set_cons_succ, reduceIte])
  obtain ⟨l2, el, s1, s2, rfl⟩ := loop
  have hw : sWalk rng1D (sCons (sBlt maxD (sCons (sC (.int (1))) (sCons (sBlt minD (sCons (sC (.int (3))) (sCons (sBlt lenD (sCons (sVar 0) sNil)) sNil))) sNil))) sNil) ⟨[.v (.scr ns), .un, .un, .un, .un, .un], ⟨none, none⟩⟩ = .ok (rangeD 0 (max 1 (min 3 ns.length))) ⟨[.v (.scr ns), .un, .un, .un, .un, .un], ⟨none, none⟩⟩ := by
    have ea : (sCons (sBlt maxD (sCons (sC (.int (1))) (sCons (sBlt minD (sCons (sC (.int (3))) (sCons (sBlt lenD (sCons (sVar 0) sNil)) sNil))) sNil))) sNil) ⟨[.v (.scr ns), .un, .un, .un, .un, .un], ⟨none, none⟩⟩ = .ok [.int ((max 1 (min 3 ns.length) : Nat) : Int)] ⟨[.v (.scr ns), .un, .un, .un, .un, .un], ⟨none, none⟩⟩ := by
      simp only [sCons, sNil, sBlt, sVar, sC, len_scr, mi1, mx1, opt, Res.bind, List.getElem?_cons_zero]
      congr 3
      split <;> split <;> omega
    unfold sWalk
    rw [ea, bind_ok, rng_ok (by omega), opt_some]
  have hb : b_law ⟨[.v (.scr ns), .un, .un, .un, .un, .un], ⟨none, none⟩⟩ = b_tail ⟨[.v (.scr ns), s1, s2, .un, .un, .un], ⟨none, none⟩⟩ := by
    unfold b_law b_tail
    refine seq_nx ?_
    unfold zForI
    rw [hw]
    exact el
  rw [sh, hb]
  exact ev_tail ns s1 s2
end K74

namespace K74
open PySem PySem.Spec PyProof.Rows L2 Dx
def top (i : Nat) : Stmt := PySem.Challenge.pw_lawseries_k74_whole_traces_and_kinds_of.main.body.getD i (.Pass ⟨0, 0, 0, 0⟩)
def inC (s : Stmt) (i : Nat) : Stmt := match s with
  | .ClassDef _ _ _ b _ _ _ _ _ _ _ => b.getD i (.Pass ⟨0, 0, 0, 0⟩)
  | _ => .Pass ⟨0, 0, 0, 0⟩
structure Gs (mg : Str → Option Value) : Prop where
  c_FAR : ∃ t, mg "FAR" = some (.int (1000000000000000000000000000000000000000000000000000000000000) t)
  c_MAX_COUNTED : ∃ t, mg "MAX_COUNTED" = some (.int (97) t)
  c_MAX_ENTRY : ∃ t, mg "MAX_ENTRY" = some (.int (1000) t)
  c_MAX_FACTORED : ∃ t, mg "MAX_FACTORED" = some (.int (1000000000) t)
  f_abs : mg "abs" = none
  f_all : mg "all" = none
  f_bool : mg "bool" = none
  f_int : mg "int" = none
  f_isinstance : mg "isinstance" = none
  f_len : mg "len" = none
  f_list : mg "list" = none
  f_max : mg "max" = none
  f_min : mg "min" = none
  f_range : mg "range" = none
  f_tuple : mg "tuple" = none
abbrev s__law_dice : Stmt := top 20
abbrev s__law_roll : Stmt := top 21
abbrev s__law_pick : Stmt := top 22
abbrev s__law_hc_cubic : Stmt := top 23
abbrev s__law_hc_numbers : Stmt := top 26
abbrev s__law_hc_holds : Stmt := top 24
abbrev s__law_hc_trace : Stmt := top 25
abbrev s__law_hc_kind : Stmt := top 27
abbrev s__law_singular : Stmt := top 28
abbrev s_is_plain : Stmt := top 7
abbrev s_powers_in : Stmt := top 12
abbrev s_is_prime : Stmt := top 13
abbrev s_need_prime : Stmt := top 17
abbrev s_Cubic_count_pairs : Stmt := inC (top 18) 12
abbrev s_Cubic_trace_at : Stmt := inC (top 18) 11
abbrev s_Cubic_kind_in : Stmt := inC (top 18) 14
abbrev s_Cubic_kind_at : Stmt := inC (top 18) 13
abbrev s__law_at_right : Stmt := top 29
abbrev s_is_short : Stmt := top 8
abbrev s_is_integer : Stmt := top 11
abbrev s_Cubic_init : Stmt := inC (top 18) 1
abbrev s_Cubic_discriminant : Stmt := inC (top 18) 4
abbrev s_Cubic_second : Stmt := inC (top 18) 5
abbrev s__law_right : Stmt := top 30
abbrev s_law : Stmt := top 31
section
variable {P : Program} {w : World} {K : PySem.W.Frag} {mg : Str → Option Value} {base : Heap} {cn : Cn} {f : Addr} {fd : FuncData}
structure T__law_dice (P : Program) (w : World) (K : PySem.W.Frag) (mg : Str → Option Value) (base : Heap) (cn : Cn) : Prop where
  u : True
theorem S__law_dice : FnScope ["_law_script", "_law_spot", "_law_cell", "_law_left"] ["_law_script", "_law_spot"] (defScope s__law_dice) := ⟨rfl, rfl, rfl, by decide +kernel, rfl, by decide +kernel, by decide +kernel⟩
theorem R__law_dice (hK : K = cn.K) (G : Gs mg) (T : T__law_dice P w K mg base cn) (F : FunD K "_law_dice" "_law_dice" (defArgs s__law_dice) (defBody s__law_dice) (defScope s__law_dice) [] [] f fd) : FnR P w K mg base (L2.CX P w) 2 f (spF cn m__law_dice) :=
  fn0 (k := 1) hK F S__law_dice (FunD.bindsN F fun _ _ _ _ _ _ us hl => match us, hl with | [_, _], _ => rfl) fun cdv A outer s H E c Z =>
    (dss_cons (ds_set (g_name 2 Z) (de_ifExp (t_lt (e_var 1) (e_len Z G.f_len (e_var 0))) (e_int G.f_int (e_ix Z (e_var 0) (e_var 1))) (e_add Z (e_mul Z de_int (e_var 1)) de_int)))
    (dss_cons (ds_set (g_name 3 Z) (e_mod (e_max Z G.f_max de_int (e_sub (e_abs G.f_abs (e_var 2)) (e_pow de_int de_int))) (e_mul Z (e_pow de_int de_int) (e_pow de_int de_int))))
    (dss_one (ds_retO (do_lst (da_cons (e_var 3) (da_cons (e_add Z (e_add Z (e_add Z (e_mul Z (e_mod (e_abs G.f_abs (e_var 2)) de_int) de_int) (e_mul Z de_int (e_var 1))) (e_mul Z de_int (e_int G.f_int (e_lt (e_var 2) de_int)))) de_int) (da_cons de_int da_nil))))))))
structure T__law_roll (P : Program) (w : World) (K : PySem.W.Frag) (mg : Str → Option Value) (base : Heap) (cn : Cn) : Prop where
  u : True
theorem S__law_roll : FnScope ["_law_dice_here", "_law_total", "_law_found", "_law_one", "_law_two"] ["_law_dice_here", "_law_total"] (defScope s__law_roll) := ⟨rfl, rfl, rfl, by decide +kernel, rfl, by decide +kernel, by decide +kernel⟩
theorem R__law_roll (hK : K = cn.K) (G : Gs mg) (T : T__law_roll P w K mg base cn) (F : FunD K "_law_roll" "_law_roll" (defArgs s__law_roll) (defBody s__law_roll) (defScope s__law_roll) [] [] f fd) : FnR P w K mg base (L2.CX P w) 2 f (spF cn m__law_roll) :=
  fn0 (k := 1) hK F S__law_roll (FunD.bindsN F fun _ _ _ _ _ _ us hl => match us, hl with | [_, _], _ => rfl) fun cdv A outer s H E c Z =>
    (dss_cons (ds_if (t_gt (de_die (i := 0) (k := 0) (by decide) Z.hK (pv 0) (fun _ _ => rfl)) de_int) (dss_cons (ds_set (g_name 2 Z) (e_mod (e_int G.f_int (de_die (i := 0) (k := 0) (by decide) Z.hK (pv 0) (fun _ _ => rfl))) (e_var 1)))
    (dss_cons (ds_die (i := 0) (k := 0) (by decide) Z.hK (pv 0) (e_div (de_die (i := 0) (k := 0) (by decide) Z.hK (pv 0) (fun _ _ => rfl)) (e_var 1)))
    (dss_one (ds_ret (e_var 2))))) dss_nil)
    (dss_cons (ds_die (i := 0) (k := 2) (by decide) Z.hK (pv 0) (e_add Z (de_die (i := 0) (k := 2) (by decide) Z.hK (pv 0) (fun _ _ => rfl)) de_int))
    (dss_cons (ds_set (g_name 3 Z) (e_mod (e_int G.f_int (e_add Z (de_die (i := 0) (k := 1) (by decide) Z.hK (pv 0) (fun _ _ => rfl)) (e_mul Z de_int (de_die (i := 0) (k := 2) (by decide) Z.hK (pv 0) (fun _ _ => rfl))))) de_int))
    (dss_cons (ds_set (g_name 4 Z) (e_add Z (e_mul Z (e_mod (e_int G.f_int (e_add Z (e_mul Z (e_var 3) (e_var 3)) (e_mul Z de_int (de_die (i := 0) (k := 2) (by decide) Z.hK (pv 0) (fun _ _ => rfl))))) de_int) de_int) (e_var 3)))
    (dss_one (ds_ret (e_mod (e_int G.f_int (e_div (e_var 4) de_int)) (e_var 1))))))))
structure T__law_pick (P : Program) (w : World) (K : PySem.W.Frag) (mg : Str → Option Value) (base : Heap) (cn : Cn) : Prop where
  d__law_roll : Cal P w K mg base cn 2 "_law_roll" m__law_roll
theorem S__law_pick : FnScope ["_law_dice_here", "_law_items"] ["_law_dice_here", "_law_items"] (defScope s__law_pick) := ⟨rfl, rfl, rfl, by decide +kernel, rfl, by decide +kernel, by decide +kernel⟩
theorem R__law_pick (hK : K = cn.K) (G : Gs mg) (T : T__law_pick P w K mg base cn) (F : FunD K "_law_pick" "_law_pick" (defArgs s__law_pick) (defBody s__law_pick) (defScope s__law_pick) [] [] f fd) : FnR P w K mg base (L2.CX P w) 4 f (spF cn m__law_pick) :=
  fn0 (k := 3) hK F S__law_pick (FunD.bindsN F fun _ _ _ _ _ _ us hl => match us, hl with | [_, _], _ => rfl) fun cdv A outer s H E c Z =>
    (dss_one (ds_ret (e_ix Z (e_var 1) (e_call Z T.d__law_roll (by decide) (da_cons (e_var 0) (da_cons (e_len Z G.f_len (e_var 1)) da_nil))))))
structure T__law_hc_cubic (P : Program) (w : World) (K : PySem.W.Frag) (mg : Str → Option Value) (base : Heap) (cn : Cn) : Prop where
  d__law_pick : Cal P w K mg base cn 4 "_law_pick" m__law_pick
  d__law_roll : Cal P w K mg base cn 2 "_law_roll" m__law_roll
theorem S__law_hc_cubic : FnScope ["_law_dice_here", "_law_some", "_law_turn"] ["_law_dice_here"] (defScope s__law_hc_cubic) := ⟨rfl, rfl, rfl, by decide +kernel, rfl, by decide +kernel, by decide +kernel⟩
theorem R__law_hc_cubic (hK : K = cn.K) (G : Gs mg) (T : T__law_hc_cubic P w K mg base cn) (F : FunD K "_law_hc_cubic" "_law_hc_cubic" (defArgs s__law_hc_cubic) (defBody s__law_hc_cubic) (defScope s__law_hc_cubic) [] [] f fd) : FnR P w K mg base (L2.CX P w) 6 f (spF cn m__law_hc_cubic) :=
  fn0 (k := 5) hK F S__law_hc_cubic (FunD.bindsN F fun _ _ _ _ _ _ us hl => match us, hl with | [_], _ => rfl) fun cdv A outer s H E c Z =>
    (dss_cons (ds_set (g_name 1 Z) (de_frz (do_lst (da_cons (de_tup (da_cons de_int (da_cons (e_neg de_int) (da_cons de_int (da_cons de_int (da_cons de_int da_nil)))))) (da_cons (de_tup (da_cons de_int (da_cons de_int (da_cons de_int (da_cons (e_neg de_int) (da_cons de_int da_nil)))))) (da_cons (de_tup (da_cons de_int (da_cons de_int (da_cons de_int (da_cons (e_neg de_int) (da_cons de_int da_nil)))))) (da_cons (de_tup (da_cons de_int (da_cons de_int (da_cons de_int (da_cons (e_neg de_int) (da_cons de_int da_nil)))))) (da_cons (de_tup (da_cons de_int (da_cons de_int (da_cons de_int (da_cons de_int (da_cons de_int da_nil)))))) (da_cons (de_tup (da_cons de_int (da_cons (e_neg de_int) (da_cons de_int (da_cons (e_neg de_int) (da_cons (e_neg de_int) da_nil)))))) da_nil)))))))))
    (dss_cons (ds_if (t_eq Z (e_call Z T.d__law_roll (by decide) (da_cons (e_var 0) (da_cons de_int da_nil))) de_int) (dss_one (ds_ret (e_call Z T.d__law_pick (by decide) (da_cons (e_var 0) (da_cons (e_var 1) da_nil))))) dss_nil)
    (dss_one (ds_ret (e_tuple Z G.f_tuple (de_frz (do_lc (own := [("_law_turn", 2)]) Z.calm Z.nd (di_range1 (by rfl) G.f_range (da_cons de_int da_nil)) (blkOk_by (N := ["_law_dice_here", "_law_some", "_law_turn"]) (sc := defScope s__law_hc_cubic) (own := [("_law_turn", 2)]) (by decide +kernel)) (by decide) (fun s H C cl fp => (dg_name (g_nm 2 Z.nd))) (fun s H C cl fp c1 h1 => dts_nil) (fun s H C cl fp c1 h1 => (e_sub (e_call (Ctx.blk Z h1 s H _ _ fp) T.d__law_roll (by decide) (da_cons (e_var 0) (da_cons de_int da_nil))) de_int)))))))))
structure T__law_hc_numbers (P : Program) (w : World) (K : PySem.W.Frag) (mg : Str → Option Value) (base : Heap) (cn : Cn) : Prop where
  u : True
theorem S__law_hc_numbers : FnScope ["_law_parts", "_law_a1", "_law_a2", "_law_a3", "_law_a4", "_law_a6", "_law_b2", "_law_b4", "_law_b6", "_law_b8", "_law_first"] ["_law_parts"] (defScope s__law_hc_numbers) := ⟨rfl, rfl, rfl, by decide +kernel, rfl, by decide +kernel, by decide +kernel⟩
theorem R__law_hc_numbers (hK : K = cn.K) (G : Gs mg) (T : T__law_hc_numbers P w K mg base cn) (F : FunD K "_law_hc_numbers" "_law_hc_numbers" (defArgs s__law_hc_numbers) (defBody s__law_hc_numbers) (defScope s__law_hc_numbers) [] [] f fd) : FnR P w K mg base (L2.CX P w) 2 f (spF cn m__law_hc_numbers) :=
  fn0 (k := 1) hK F S__law_hc_numbers (FunD.bindsN F fun _ _ _ _ _ _ us hl => match us, hl with | [_], _ => rfl) fun cdv A outer s H E c Z =>
    (dss_cons (ds_asg (e_var 0) (dg_tup Z.calm Z.hK (dgs_cons (dg_name (g_nm 1 Z.nd)) (dgs_cons (dg_name (g_nm 2 Z.nd)) (dgs_cons (dg_name (g_nm 3 Z.nd)) (dgs_cons (dg_name (g_nm 4 Z.nd)) (dgs_cons (dg_name (g_nm 5 Z.nd)) dgs_nil)))))))
    (dss_cons (ds_par (i := 6) (j := 7) Z.calm Z.nd rfl rfl (by decide) rfl rfl (da_cons (e_add Z (e_mul Z (e_var 1) (e_var 1)) (e_mul Z de_int (e_var 2))) (da_cons (e_add Z (e_mul Z de_int (e_var 4)) (e_mul Z (e_var 1) (e_var 3))) da_nil)) (by rfl))
    (dss_cons (ds_set (g_name 8 Z) (e_add Z (e_mul Z (e_var 3) (e_var 3)) (e_mul Z de_int (e_var 5))))
    (dss_cons (ds_set (g_name 9 Z) (e_sub (e_add Z (e_mul Z (e_mul Z (e_var 1) (e_var 1)) (e_var 5)) (e_mul Z (e_mul Z de_int (e_var 2)) (e_var 5))) (e_mul Z (e_mul Z (e_var 1) (e_var 3)) (e_var 4))))
    (dss_cons (ds_set (g_name 9 Z) (e_sub (e_add Z (e_var 9) (e_mul Z (e_mul Z (e_var 2) (e_var 3)) (e_var 3))) (e_mul Z (e_var 4) (e_var 4))))
    (dss_cons (ds_set (g_name 10 Z) (e_sub (e_mul Z (e_mul Z (e_neg (e_var 6)) (e_var 6)) (e_var 9)) (e_mul Z (e_mul Z (e_mul Z de_int (e_var 7)) (e_var 7)) (e_var 7))))
    (dss_cons (ds_set (g_name 10 Z) (e_add Z (e_sub (e_var 10) (e_mul Z (e_mul Z de_int (e_var 8)) (e_var 8))) (e_mul Z (e_mul Z (e_mul Z de_int (e_var 6)) (e_var 7)) (e_var 8))))
    (dss_one (ds_ret (de_tup (da_cons (e_var 10) (da_cons (e_sub (e_mul Z (e_var 6) (e_var 6)) (e_mul Z de_int (e_var 7))) da_nil))))))))))))
structure T__law_hc_holds (P : Program) (w : World) (K : PySem.W.Frag) (mg : Str → Option Value) (base : Heap) (cn : Cn) : Prop where
  u : True
theorem S__law_hc_holds : FnScope ["_law_parts", "_law_prime", "_law_x", "_law_y", "_law_a1", "_law_a2", "_law_a3", "_law_a4", "_law_a6", "_law_left", "_law_other"] ["_law_parts", "_law_prime", "_law_x", "_law_y"] (defScope s__law_hc_holds) := ⟨rfl, rfl, rfl, by decide +kernel, rfl, by decide +kernel, by decide +kernel⟩
theorem R__law_hc_holds (hK : K = cn.K) (G : Gs mg) (T : T__law_hc_holds P w K mg base cn) (F : FunD K "_law_hc_holds" "_law_hc_holds" (defArgs s__law_hc_holds) (defBody s__law_hc_holds) (defScope s__law_hc_holds) [] [] f fd) : FnR P w K mg base (L2.CX P w) 2 f (spF cn m__law_hc_holds) :=
  fn0 (k := 1) hK F S__law_hc_holds (FunD.bindsN F fun _ _ _ _ _ _ us hl => match us, hl with | [_, _, _, _], _ => rfl) fun cdv A outer s H E c Z =>
    (dss_cons (ds_asg (e_var 0) (dg_tup Z.calm Z.hK (dgs_cons (dg_name (g_nm 4 Z.nd)) (dgs_cons (dg_name (g_nm 5 Z.nd)) (dgs_cons (dg_name (g_nm 6 Z.nd)) (dgs_cons (dg_name (g_nm 7 Z.nd)) (dgs_cons (dg_name (g_nm 8 Z.nd)) dgs_nil)))))))
    (dss_cons (ds_set (g_name 9 Z) (e_add Z (e_add Z (e_mul Z (e_var 3) (e_var 3)) (e_mul Z (e_mul Z (e_var 4) (e_var 2)) (e_var 3))) (e_mul Z (e_var 6) (e_var 3))))
    (dss_cons (ds_set (g_name 10 Z) (e_add Z (e_add Z (e_add Z (e_mul Z (e_mul Z (e_var 2) (e_var 2)) (e_var 2)) (e_mul Z (e_mul Z (e_var 5) (e_var 2)) (e_var 2))) (e_mul Z (e_var 7) (e_var 2))) (e_var 8)))
    (dss_one (ds_ret (e_eq Z (e_mod (e_sub (e_var 9) (e_var 10)) (e_var 1)) de_int))))))
structure T__law_hc_trace (P : Program) (w : World) (K : PySem.W.Frag) (mg : Str → Option Value) (base : Heap) (cn : Cn) : Prop where
  d__law_hc_holds : Cal P w K mg base cn 2 "_law_hc_holds" m__law_hc_holds
theorem S__law_hc_trace : FnScope ["_law_parts", "_law_prime", "_law_many", "_law_x", "_law_y"] ["_law_parts", "_law_prime"] (defScope s__law_hc_trace) := ⟨rfl, rfl, rfl, by decide +kernel, rfl, by decide +kernel, by decide +kernel⟩
theorem R__law_hc_trace (hK : K = cn.K) (G : Gs mg) (T : T__law_hc_trace P w K mg base cn) (F : FunD K "_law_hc_trace" "_law_hc_trace" (defArgs s__law_hc_trace) (defBody s__law_hc_trace) (defScope s__law_hc_trace) [] [] f fd) : FnR P w K mg base (L2.CX P w) 4 f (spF cn m__law_hc_trace) :=
  fn0 (k := 3) hK F S__law_hc_trace (FunD.bindsN F fun _ _ _ _ _ _ us hl => match us, hl with | [_, _], _ => rfl) fun cdv A outer s H E c Z =>
    (dss_cons (ds_set (g_name 2 Z) de_int)
    (dss_cons (ds_for Z.pass Z.calm (di_range1 (by rfl) G.f_range (da_cons (e_var 1) da_nil)) (dg_name (g_nm 3 Z.nd)) (dss_one (ds_set (g_name 2 Z) (e_add Z (e_var 2) (e_len Z G.f_len (de_frz (do_lc (own := [("_law_y", 4)]) Z.calm Z.nd (di_range1 (by rfl) G.f_range (da_cons (e_var 1) da_nil)) (blkOk_by (N := ["_law_parts", "_law_prime", "_law_many", "_law_x", "_law_y"]) (sc := defScope s__law_hc_trace) (own := [("_law_y", 4)]) (by decide +kernel)) (by decide) (fun s H C cl fp => (dg_name (g_nm 4 Z.nd))) (fun s H C cl fp c1 h1 => (dts_one (t_tru (Ctx.blk Z h1 s H _ _ fp) (e_call (Ctx.blk Z h1 s H _ _ fp) T.d__law_hc_holds (by decide) (da_cons (e_var 0) (da_cons (e_var 1) (da_cons (e_var 3) (da_cons (e_var 4) da_nil)))))))) (fun s H C cl fp c1 h1 => (e_var 4)))))))))
    (dss_one (ds_ret (e_sub (e_var 1) (e_var 2))))))
structure T__law_hc_kind (P : Program) (w : World) (K : PySem.W.Frag) (mg : Str → Option Value) (base : Heap) (cn : Cn) : Prop where
  d__law_hc_numbers : Cal P w K mg base cn 2 "_law_hc_numbers" m__law_hc_numbers
theorem S__law_hc_kind : FnScope ["_law_parts", "_law_prime", "_law_first", "_law_second"] ["_law_parts", "_law_prime"] (defScope s__law_hc_kind) := ⟨rfl, rfl, rfl, by decide +kernel, rfl, by decide +kernel, by decide +kernel⟩
theorem R__law_hc_kind (hK : K = cn.K) (G : Gs mg) (T : T__law_hc_kind P w K mg base cn) (F : FunD K "_law_hc_kind" "_law_hc_kind" (defArgs s__law_hc_kind) (defBody s__law_hc_kind) (defScope s__law_hc_kind) [] [] f fd) : FnR P w K mg base (L2.CX P w) 4 f (spF cn m__law_hc_kind) :=
  fn0 (k := 3) hK F S__law_hc_kind (FunD.bindsN F fun _ _ _ _ _ _ us hl => match us, hl with | [_, _], _ => rfl) fun cdv A outer s H E c Z =>
    (dss_cons (ds_asg (e_call Z T.d__law_hc_numbers (by decide) (da_cons (e_var 0) da_nil)) (dg_tup Z.calm Z.hK (dgs_cons (dg_name (g_nm 2 Z.nd)) (dgs_cons (dg_name (g_nm 3 Z.nd)) dgs_nil))))
    (dss_cons (ds_if (t_ne Z (e_mod (e_var 2) (e_var 1)) de_int) (dss_one (ds_ret de_str)) dss_nil)
    (dss_one (ds_ret (de_ifExp (t_eq Z (e_mod (e_var 3) (e_var 1)) de_int) de_str de_str)))))
structure T__law_singular (P : Program) (w : World) (K : PySem.W.Frag) (mg : Str → Option Value) (base : Heap) (cn : Cn) : Prop where
  d__law_hc_holds : Cal P w K mg base cn 2 "_law_hc_holds" m__law_hc_holds
theorem S__law_singular : FnScope ["_law_parts", "_law_prime", "_law_a1", "_law_a2", "_law_a3", "_law_a4", "_law_a6", "_law_x", "_law_y"] ["_law_parts", "_law_prime"] (defScope s__law_singular) := ⟨rfl, rfl, rfl, by decide +kernel, rfl, by decide +kernel, by decide +kernel⟩
theorem R__law_singular (hK : K = cn.K) (G : Gs mg) (T : T__law_singular P w K mg base cn) (F : FunD K "_law_singular" "_law_singular" (defArgs s__law_singular) (defBody s__law_singular) (defScope s__law_singular) [] [] f fd) : FnR P w K mg base (L2.CX P w) 4 f (spF cn m__law_singular) :=
  fn0 (k := 3) hK F S__law_singular (FunD.bindsN F fun _ _ _ _ _ _ us hl => match us, hl with | [_, _], _ => rfl) fun cdv A outer s H E c Z =>
    (dss_cons (ds_asg (e_var 0) (dg_tup Z.calm Z.hK (dgs_cons (dg_name (g_nm 2 Z.nd)) (dgs_cons (dg_name (g_nm 3 Z.nd)) (dgs_cons (dg_name (g_nm 4 Z.nd)) (dgs_cons (dg_name (g_nm 5 Z.nd)) (dgs_cons (dg_name (g_nm 6 Z.nd)) dgs_nil)))))))
    (dss_cons (ds_for Z.pass Z.calm (di_range1 (by rfl) G.f_range (da_cons (e_var 1) da_nil)) (dg_name (g_nm 7 Z.nd)) (dss_one (ds_for Z.pass Z.calm (di_range1 (by rfl) G.f_range (da_cons (e_var 1) da_nil)) (dg_name (g_nm 8 Z.nd)) (dss_one (ds_if (dt_w (dw_and (t_tru Z (e_call Z T.d__law_hc_holds (by decide) (da_cons (e_var 0) (da_cons (e_var 1) (da_cons (e_var 7) (da_cons (e_var 8) da_nil)))))) (dw_and1 (t_eq Z (e_mod (e_add Z (e_add Z (e_mul Z de_int (e_var 8)) (e_mul Z (e_var 2) (e_var 7))) (e_var 4)) (e_var 1)) de_int)))) (dss_one (ds_if (t_eq Z (e_mod (e_sub (e_sub (e_sub (e_mul Z (e_var 2) (e_var 8)) (e_mul Z (e_mul Z de_int (e_var 7)) (e_var 7))) (e_mul Z (e_mul Z de_int (e_var 3)) (e_var 7))) (e_var 5)) (e_var 1)) de_int) (dss_one (ds_ret de_bl)) dss_nil)) dss_nil)))))
    (dss_one (ds_ret de_bl))))
structure T_is_plain (P : Program) (w : World) (K : PySem.W.Frag) (mg : Str → Option Value) (base : Heap) (cn : Cn) : Prop where
  u : True
theorem S_is_plain : FnScope ["value"] ["value"] (defScope s_is_plain) := ⟨rfl, rfl, rfl, by decide +kernel, rfl, by decide +kernel, by decide +kernel⟩
theorem R_is_plain (hK : K = cn.K) (G : Gs mg) (T : T_is_plain P w K mg base cn) (F : FunD K "is_plain" "is_plain" (defArgs s_is_plain) (defBody s_is_plain) (defScope s_is_plain) [] [] f fd) : FnR P w K mg base (L2.CX P w) 2 f (spF cn m_is_plain) :=
  fn0 (k := 1) hK F S_is_plain (FunD.bindsN F fun _ _ _ _ _ _ us hl => match us, hl with | [_], _ => rfl) fun cdv A outer s H E c Z =>
    (dss_one (ds_ret (de_and (de_isi 0 (by decide) Z.hK (by rfl) G.f_isinstance (e_var 0) (by rfl) G.f_int (by rfl)) (de_one (de_not (de_isi 1 (by decide) Z.hK (by rfl) G.f_isinstance (e_var 0) (by rfl) G.f_bool (by rfl)))))))
structure T_powers_in (P : Program) (w : World) (K : PySem.W.Frag) (mg : Str → Option Value) (base : Heap) (cn : Cn) : Prop where
  u : True
theorem S_powers_in : FnScope ["number", "found", "left", "factor"] ["number"] (defScope s_powers_in) := ⟨rfl, rfl, rfl, by decide +kernel, rfl, by decide +kernel, by decide +kernel⟩
theorem R_powers_in (hK : K = cn.K) (G : Gs mg) (T : T_powers_in P w K mg base cn) (F : FunD K "powers_in" "powers_in" (defArgs s_powers_in) (defBody s_powers_in) (defScope s_powers_in) [] [] f fd) : FnR P w K mg base (L2.CX P w) 2 f (spF cn m_powers_in) :=
  fn0 (k := 1) hK F S_powers_in (FunD.bindsN F fun _ _ _ _ _ _ us hl => match us, hl with | [_], _ => rfl) fun cdv A outer s H E c Z =>
    (dss_cons (ds_parD (i := 1) (j := 2) (l := 3) Z.calm Z.nd rfl rfl rfl (by decide) (by decide) (by decide) rfl rfl rfl (fun c1 h1 => (da_cons (e_var 0) (da_cons de_int da_nil))) (by rfl))
    (dss_cons (ds_while 64 Z.pass (t_le (e_mul Z (e_var 3) (e_var 3)) (e_var 2)) (dss_cons (ds_while 64 Z.pass (t_eq Z (e_mod (e_var 2) (e_var 3)) de_int) (dss_cons (ds_dput (i := 1) (by have := Z.hr.units; omega) (pv 1) (e_var 3) (e_add Z (de_dget2 (i := 1) (by have := Z.hr.units; omega) (pv 1) (e_var 3) de_int ⟨rfl, rfl, rfl, rfl⟩) de_int))
    (dss_one (s_adiv 2 Z (e_var 3)))))
    (dss_one (s_aadd 3 Z (de_ifExp (t_eq Z (e_var 3) de_int) de_int de_int)))))
    (dss_cons (ds_if (t_gt (e_var 2) de_int) (dss_one (ds_dput (i := 1) (by have := Z.hr.units; omega) (pv 1) (e_var 2) (e_add Z (de_dget2 (i := 1) (by have := Z.hr.units; omega) (pv 1) (e_var 2) de_int ⟨rfl, rfl, rfl, rfl⟩) de_int))) dss_nil)
    (dss_one (ds_retV (i := 1) (pv 1))))))
structure T_is_prime (P : Program) (w : World) (K : PySem.W.Frag) (mg : Str → Option Value) (base : Heap) (cn : Cn) : Prop where
  d_is_plain : Cal P w K mg base cn 2 "is_plain" m_is_plain
  d_powers_in : Cal P w K mg base cn 2 "powers_in" m_powers_in
theorem S_is_prime : FnScope ["value"] ["value"] (defScope s_is_prime) := ⟨rfl, rfl, rfl, by decide +kernel, rfl, by decide +kernel, by decide +kernel⟩
theorem R_is_prime (hK : K = cn.K) (G : Gs mg) (T : T_is_prime P w K mg base cn) (F : FunD K "is_prime" "is_prime" (defArgs s_is_prime) (defBody s_is_prime) (defScope s_is_prime) [] [] f fd) : FnR P w K mg base (L2.CX P w) 4 f (spF cn m_is_prime) :=
  fn0 (k := 3) hK F S_is_prime (FunD.bindsN F fun _ _ _ _ _ _ us hl => match us, hl with | [_], _ => rfl) fun cdv A outer s H E c Z =>
    (dss_cons (ds_if (dt_w (dw_or (dt_not (t_tru Z (e_call Z T.d_is_plain (by decide) (da_cons (e_var 0) da_nil)))) (dw_or1 (dt_not (dt_chain op_le ok_cmpI op_le ok_cmpI de_int (e_var 0) (de_gint (by rfl) G.c_MAX_FACTORED)))))) (dss_one (ds_ret de_bl)) dss_nil)
    (dss_one (ds_ret (e_eq Z (de_listVals Z.calm Z.hK (by rfl) G.f_list (e_call Z T.d_powers_in (by decide) (da_cons (e_var 0) da_nil))) (de_frz (do_lst (da_cons de_int da_nil)))))))
structure T_need_prime (P : Program) (w : World) (K : PySem.W.Frag) (mg : Str → Option Value) (base : Heap) (cn : Cn) : Prop where
  d_is_prime : Cal P w K mg base cn 4 "is_prime" m_is_prime
theorem S_need_prime : FnScope ["value"] ["value"] (defScope s_need_prime) := ⟨rfl, rfl, rfl, by decide +kernel, rfl, by decide +kernel, by decide +kernel⟩
theorem R_need_prime (hK : K = cn.K) (G : Gs mg) (T : T_need_prime P w K mg base cn) (F : FunD K "need_prime" "need_prime" (defArgs s_need_prime) (defBody s_need_prime) (defScope s_need_prime) [] [] f fd) : FnR P w K mg base (L2.CX P w) 6 f (spF cn m_need_prime) :=
  fn0 (k := 5) hK F S_need_prime (FunD.bindsN F fun _ _ _ _ _ _ us hl => match us, hl with | [_], _ => rfl) fun cdv A outer s H E c Z =>
    (dss_one (ds_if (dt_w (dw_or (dt_not (t_tru Z (e_call Z T.d_is_prime (by decide) (da_cons (e_var 0) da_nil)))) (dw_or1 (t_gt (e_var 0) (de_gint (by rfl) G.c_MAX_COUNTED))))) (dss_one ds_bad) dss_nil))
structure T_Cubic_count_pairs (P : Program) (w : World) (K : PySem.W.Frag) (mg : Str → Option Value) (base : Heap) (cn : Cn) : Prop where
  a_own_entries : AttrOk cn "own_entries" ta_own_entries
theorem S_Cubic_count_pairs : FnScope ["self", "prime", "a1", "a2", "a3", "a4", "a6", "found", "x", "right", "line", "y"] ["self", "prime"] (defScope s_Cubic_count_pairs) := ⟨rfl, rfl, rfl, by decide +kernel, rfl, by decide +kernel, by decide +kernel⟩
theorem R_Cubic_count_pairs (hK : K = cn.K) (G : Gs mg) (T : T_Cubic_count_pairs P w K mg base cn) (F : FunD K "count_pairs" "Cubic.count_pairs" (defArgs s_Cubic_count_pairs) (defBody s_Cubic_count_pairs) (defScope s_Cubic_count_pairs) [] [] f fd) : FnR P w K mg base (L2.CX P w) 2 f (spF cn m_Cubic_count_pairs) :=
  fn0 (k := 1) hK F S_Cubic_count_pairs (FunD.bindsN F fun _ _ _ _ _ _ us hl => match us, hl with | [_, _], _ => rfl) fun cdv A outer s H E c Z =>
    (dss_cons (ds_asg (e_attr Z T.a_own_entries (e_var 0)) (dg_tup Z.calm Z.hK (dgs_cons (dg_name (g_nm 2 Z.nd)) (dgs_cons (dg_name (g_nm 3 Z.nd)) (dgs_cons (dg_name (g_nm 4 Z.nd)) (dgs_cons (dg_name (g_nm 5 Z.nd)) (dgs_cons (dg_name (g_nm 6 Z.nd)) dgs_nil)))))))
    (dss_cons (ds_set (g_name 7 Z) de_int)
    (dss_cons (ds_for Z.pass Z.calm (di_range1 (by rfl) G.f_range (da_cons (e_var 1) da_nil)) (dg_name (g_nm 8 Z.nd)) (dss_cons (ds_asg (de_tup (da_cons (e_add Z (e_mul Z (e_add Z (e_mul Z (e_add Z (e_var 8) (e_var 3)) (e_var 8)) (e_var 5)) (e_var 8)) (e_var 6)) (da_cons (e_add Z (e_mul Z (e_var 2) (e_var 8)) (e_var 4)) da_nil))) (dg_tup Z.calm Z.hK (dgs_cons (dg_name (g_nm 9 Z.nd)) (dgs_cons (dg_name (g_nm 10 Z.nd)) dgs_nil))))
    (dss_one (s_aadd 7 Z (e_len Z G.f_len (de_frz (do_lc (own := [("y", 11)]) Z.calm Z.nd (di_range1 (by rfl) G.f_range (da_cons (e_var 1) da_nil)) (blkOk_by (N := ["self", "prime", "a1", "a2", "a3", "a4", "a6", "found", "x", "right", "line", "y"]) (sc := defScope s_Cubic_count_pairs) (own := [("y", 11)]) (by decide +kernel)) (by decide) (fun s H C cl fp => (dg_name (g_nm 11 Z.nd))) (fun s H C cl fp c1 h1 => (dts_one (t_eq (Ctx.blk Z h1 s H _ _ fp) (e_mod (e_sub (e_mul (Ctx.blk Z h1 s H _ _ fp) (e_add (Ctx.blk Z h1 s H _ _ fp) (e_var 11) (e_var 10)) (e_var 11)) (e_var 9)) (e_var 1)) de_int))) (fun s H C cl fp c1 h1 => (e_var 11)))))))))
    (dss_one (ds_ret (e_var 7))))))
structure T_Cubic_trace_at (P : Program) (w : World) (K : PySem.W.Frag) (mg : Str → Option Value) (base : Heap) (cn : Cn) : Prop where
  d_need_prime : Cal P w K mg base cn 6 "need_prime" m_need_prime
  q_count_pairs : MthOk P w mg base cn 2 "count_pairs" tm_count_pairs
theorem S_Cubic_trace_at : FnScope ["self", "prime"] ["self", "prime"] (defScope s_Cubic_trace_at) := ⟨rfl, rfl, rfl, by decide +kernel, rfl, by decide +kernel, by decide +kernel⟩
theorem R_Cubic_trace_at (hK : K = cn.K) (G : Gs mg) (T : T_Cubic_trace_at P w K mg base cn) (F : FunD K "trace_at" "Cubic.trace_at" (defArgs s_Cubic_trace_at) (defBody s_Cubic_trace_at) (defScope s_Cubic_trace_at) [] [] f fd) : FnR P w K mg base (L2.CX P w) 8 f (spF cn m_Cubic_trace_at) :=
  fn0 (k := 7) hK F S_Cubic_trace_at (FunD.bindsN F fun _ _ _ _ _ _ us hl => match us, hl with | [_, _], _ => rfl) fun cdv A outer s H E c Z =>
    (dss_cons (ds_expr (e_call Z T.d_need_prime (by decide) (da_cons (e_var 1) da_nil)))
    (dss_one (ds_ret (e_sub (e_var 1) (e_mth Z T.q_count_pairs (by decide) (e_var 0) (da_cons (e_var 1) da_nil))))))
structure T_Cubic_kind_in (P : Program) (w : World) (K : PySem.W.Frag) (mg : Str → Option Value) (base : Heap) (cn : Cn) : Prop where
  a_own_discriminant : AttrOk cn "own_discriminant" ta_own_discriminant
  a_own_second : AttrOk cn "own_second" ta_own_second
theorem S_Cubic_kind_in : FnScope ["self", "prime"] ["self", "prime"] (defScope s_Cubic_kind_in) := ⟨rfl, rfl, rfl, by decide +kernel, rfl, by decide +kernel, by decide +kernel⟩
theorem R_Cubic_kind_in (hK : K = cn.K) (G : Gs mg) (T : T_Cubic_kind_in P w K mg base cn) (F : FunD K "kind_in" "Cubic.kind_in" (defArgs s_Cubic_kind_in) (defBody s_Cubic_kind_in) (defScope s_Cubic_kind_in) [] [] f fd) : FnR P w K mg base (L2.CX P w) 2 f (spF cn m_Cubic_kind_in) :=
  fn0 (k := 1) hK F S_Cubic_kind_in (FunD.bindsN F fun _ _ _ _ _ _ us hl => match us, hl with | [_, _], _ => rfl) fun cdv A outer s H E c Z =>
    (dss_cons (ds_if (t_ne Z (e_mod (e_attr Z T.a_own_discriminant (e_var 0)) (e_var 1)) de_int) (dss_one (ds_ret de_str)) dss_nil)
    (dss_one (ds_ret (de_ifExp (t_eq Z (e_mod (e_attr Z T.a_own_second (e_var 0)) (e_var 1)) de_int) de_str de_str))))
structure T_Cubic_kind_at (P : Program) (w : World) (K : PySem.W.Frag) (mg : Str → Option Value) (base : Heap) (cn : Cn) : Prop where
  d_need_prime : Cal P w K mg base cn 6 "need_prime" m_need_prime
  q_kind_in : MthOk P w mg base cn 2 "kind_in" tm_kind_in
theorem S_Cubic_kind_at : FnScope ["self", "prime"] ["self", "prime"] (defScope s_Cubic_kind_at) := ⟨rfl, rfl, rfl, by decide +kernel, rfl, by decide +kernel, by decide +kernel⟩
theorem R_Cubic_kind_at (hK : K = cn.K) (G : Gs mg) (T : T_Cubic_kind_at P w K mg base cn) (F : FunD K "kind_at" "Cubic.kind_at" (defArgs s_Cubic_kind_at) (defBody s_Cubic_kind_at) (defScope s_Cubic_kind_at) [] [] f fd) : FnR P w K mg base (L2.CX P w) 8 f (spF cn m_Cubic_kind_at) :=
  fn0 (k := 7) hK F S_Cubic_kind_at (FunD.bindsN F fun _ _ _ _ _ _ us hl => match us, hl with | [_, _], _ => rfl) fun cdv A outer s H E c Z =>
    (dss_cons (ds_expr (e_call Z T.d_need_prime (by decide) (da_cons (e_var 1) da_nil)))
    (dss_one (ds_ret (e_mth Z T.q_kind_in (by decide) (e_var 0) (da_cons (e_var 1) da_nil)))))
structure T__law_at_right (P : Program) (w : World) (K : PySem.W.Frag) (mg : Str → Option Value) (base : Heap) (cn : Cn) : Prop where
  d__law_hc_kind : Cal P w K mg base cn 4 "_law_hc_kind" m__law_hc_kind
  d__law_hc_trace : Cal P w K mg base cn 4 "_law_hc_trace" m__law_hc_trace
  d__law_singular : Cal P w K mg base cn 4 "_law_singular" m__law_singular
  q_kind_at : MthOk P w mg base cn 8 "kind_at" tm_kind_at
  q_trace_at : MthOk P w mg base cn 8 "trace_at" tm_trace_at
theorem S__law_at_right : FnScope ["_law_told", "_law_parts", "_law_prime", "_law_trace", "_law_kind"] ["_law_told", "_law_parts", "_law_prime"] (defScope s__law_at_right) := ⟨rfl, rfl, rfl, by decide +kernel, rfl, by decide +kernel, by decide +kernel⟩
theorem R__law_at_right (hK : K = cn.K) (G : Gs mg) (T : T__law_at_right P w K mg base cn) (F : FunD K "_law_at_right" "_law_at_right" (defArgs s__law_at_right) (defBody s__law_at_right) (defScope s__law_at_right) [] [] f fd) : FnR P w K mg base (L2.CX P w) 10 f (spF cn m__law_at_right) :=
  fn0 (k := 9) hK F S__law_at_right (FunD.bindsN F fun _ _ _ _ _ _ us hl => match us, hl with | [_, _, _], _ => rfl) fun cdv A outer s H E c Z =>
    (dss_cons (ds_par (i := 3) (j := 4) Z.calm Z.nd rfl rfl (by decide) rfl rfl (da_cons (e_mth Z T.q_trace_at (by decide) (e_var 0) (da_cons (e_var 2) da_nil)) (da_cons (e_mth Z T.q_kind_at (by decide) (e_var 0) (da_cons (e_var 2) da_nil)) da_nil)) (by rfl))
    (dss_cons (ds_if (dt_w (dw_or (t_ne Z (e_var 3) (e_call Z T.d__law_hc_trace (by decide) (da_cons (e_var 1) (da_cons (e_var 2) da_nil)))) (dw_or1 (t_ne Z (e_var 4) (e_call Z T.d__law_hc_kind (by decide) (da_cons (e_var 1) (da_cons (e_var 2) da_nil))))))) (dss_one (ds_ret de_bl)) dss_nil)
    (dss_cons (ds_if (t_ne Z (e_call Z T.d__law_singular (by decide) (da_cons (e_var 1) (da_cons (e_var 2) da_nil))) (e_ne Z (e_var 4) de_str)) (dss_one (ds_ret de_bl)) dss_nil)
    (dss_cons (ds_if (t_eq Z (e_var 4) de_str) (dss_one (ds_ret (e_le (e_mul Z (e_var 3) (e_var 3)) (e_mul Z de_int (e_var 2))))) dss_nil)
    (dss_one (ds_ret (e_eq Z (e_abs G.f_abs (e_var 3)) (e_int G.f_int (e_eq Z (e_var 4) de_str)))))))))
structure T_is_short (P : Program) (w : World) (K : PySem.W.Frag) (mg : Str → Option Value) (base : Heap) (cn : Cn) : Prop where
  d_is_plain : Cal P w K mg base cn 2 "is_plain" m_is_plain
theorem S_is_short : FnScope ["value"] ["value"] (defScope s_is_short) := ⟨rfl, rfl, rfl, by decide +kernel, rfl, by decide +kernel, by decide +kernel⟩
theorem R_is_short (hK : K = cn.K) (G : Gs mg) (T : T_is_short P w K mg base cn) (F : FunD K "is_short" "is_short" (defArgs s_is_short) (defBody s_is_short) (defScope s_is_short) [] [] f fd) : FnR P w K mg base (L2.CX P w) 4 f (spF cn m_is_short) :=
  fn0 (k := 3) hK F S_is_short (FunD.bindsN F fun _ _ _ _ _ _ us hl => match us, hl with | [_], _ => rfl) fun cdv A outer s H E c Z =>
    (dss_one (ds_ret (de_and (e_call Z T.d_is_plain (by decide) (da_cons (e_var 0) da_nil)) (de_one (de_chain op_lt ok_cmpI op_lt ok_cmpI (e_neg (de_gint (by rfl) G.c_FAR)) (e_var 0) (de_gint (by rfl) G.c_FAR))))))
structure T_is_integer (P : Program) (w : World) (K : PySem.W.Frag) (mg : Str → Option Value) (base : Heap) (cn : Cn) : Prop where
  d_is_short : Cal P w K mg base cn 4 "is_short" m_is_short
theorem S_is_integer : FnScope ["value"] ["value"] (defScope s_is_integer) := ⟨rfl, rfl, rfl, by decide +kernel, rfl, by decide +kernel, by decide +kernel⟩
theorem R_is_integer (hK : K = cn.K) (G : Gs mg) (T : T_is_integer P w K mg base cn) (F : FunD K "is_integer" "is_integer" (defArgs s_is_integer) (defBody s_is_integer) (defScope s_is_integer) [] [] f fd) : FnR P w K mg base (L2.CX P w) 6 f (spF cn m_is_integer) :=
  fn0 (k := 5) hK F S_is_integer (FunD.bindsN F fun _ _ _ _ _ _ us hl => match us, hl with | [_], _ => rfl) fun cdv A outer s H E c Z =>
    (dss_one (ds_ret (e_call Z T.d_is_short (by decide) (da_cons (e_var 0) da_nil))))
structure T_Cubic_init (P : Program) (w : World) (K : PySem.W.Frag) (mg : Str → Option Value) (base : Heap) (cn : Cn) : Prop where
  d_is_integer : Cal P w K mg base cn 6 "is_integer" m_is_integer
  a_own_discriminant : AttrOk cn "own_discriminant" ta_own_discriminant
  a_own_entries : AttrOk cn "own_entries" ta_own_entries
  a_own_second : AttrOk cn "own_second" ta_own_second
  a_own_text : AttrOk cn "own_text" ta_own_text
theorem S_Cubic_init : FnScope ["self", "a1", "a2", "a3", "a4", "a6", "entries", "one", "b2", "b4", "b6", "b8"] ["self", "a1", "a2", "a3", "a4", "a6"] (defScope s_Cubic_init) := ⟨rfl, rfl, rfl, by decide +kernel, rfl, by decide +kernel, by decide +kernel⟩
theorem R_Cubic_init (hK : K = cn.K) (G : Gs mg) (T : T_Cubic_init P w K mg base cn) (F : FunD K "__init__" "Cubic.__init__" (defArgs s_Cubic_init) (defBody s_Cubic_init) (defScope s_Cubic_init) [] [] f fd) : FnR P w K mg base (L2.CX P w) 8 f (spI cn 0 i_Cubic) :=
  in0 (k := 7) hK F S_Cubic_init (FunD.bindsN F fun _ _ _ _ _ _ us hl => match us, hl with | [_, _, _, _, _, _], _ => rfl) fun cdv A outer s H E c Z =>
    (dss_cons (ds_set (g_name 6 Z) (de_tup (da_cons (e_var 1) (da_cons (e_var 2) (da_cons (e_var 3) (da_cons (e_var 4) (da_cons (e_var 5) da_nil)))))))
    (dss_cons (ds_if (dt_not (t_tru Z (e_all Z G.f_all (de_frz (do_lc (own := [("one", 7)]) Z.calm Z.nd (r_list Z (e_var 6)) (blkOk_by (N := ["self", "a1", "a2", "a3", "a4", "a6", "entries", "one", "b2", "b4", "b6", "b8"]) (sc := defScope s_Cubic_init) (own := [("one", 7)]) (by decide +kernel)) (by decide) (fun s H C cl fp => (dg_name (g_nm 7 Z.nd))) (fun s H C cl fp c1 h1 => dts_nil) (fun s H C cl fp c1 h1 => (de_and (e_call (Ctx.blk Z h1 s H _ _ fp) T.d_is_integer (by decide) (da_cons (e_var 7) da_nil)) (de_one (de_chain op_le ok_cmpI op_le ok_cmpI (e_neg (de_gint (by rfl) G.c_MAX_ENTRY)) (e_var 7) (de_gint (by rfl) G.c_MAX_ENTRY)))))))))) (dss_one ds_bad) dss_nil)
    (dss_cons (ds_par3 (i := 8) (j := 9) (l := 10) Z rfl rfl rfl (by decide) (by decide) (by decide) rfl rfl rfl (da_cons (e_add Z (e_mul Z (e_var 1) (e_var 1)) (e_mul Z de_int (e_var 2))) (da_cons (e_add Z (e_mul Z de_int (e_var 4)) (e_mul Z (e_var 1) (e_var 3))) (da_cons (e_add Z (e_mul Z (e_var 3) (e_var 3)) (e_mul Z de_int (e_var 5))) da_nil))) (by rfl))
    (dss_cons (ds_set (g_name 11 Z) (e_sub (e_add Z (e_sub (e_add Z (e_mul Z (e_mul Z (e_var 1) (e_var 1)) (e_var 5)) (e_mul Z (e_mul Z de_int (e_var 2)) (e_var 5))) (e_mul Z (e_mul Z (e_var 1) (e_var 3)) (e_var 4))) (e_mul Z (e_mul Z (e_var 2) (e_var 3)) (e_var 3))) (e_mul Z (e_var 4) (e_var 4))))
    (dss_cons (s_self (i := 0) Z T.a_own_entries (pv 0) (e_var 6))
    (dss_cons (s_self (i := 0) Z T.a_own_discriminant (pv 0) (e_add Z (e_sub (e_sub (e_mul Z (e_mul Z (e_neg (e_var 8)) (e_var 8)) (e_var 11)) (e_mul Z (e_mul Z (e_mul Z de_int (e_var 9)) (e_var 9)) (e_var 9))) (e_mul Z (e_mul Z de_int (e_var 10)) (e_var 10))) (e_mul Z (e_mul Z (e_mul Z de_int (e_var 8)) (e_var 9)) (e_var 10))))
    (dss_cons (s_self (i := 0) Z T.a_own_second (pv 0) (e_sub (e_mul Z (e_var 8) (e_var 8)) (e_mul Z de_int (e_var 9))))
    (dss_one (s_self (i := 0) Z T.a_own_text (pv 0) (de_joined (.cons de_str (.cons (de_fmt (e_var 1)) (.cons de_str (.cons (de_fmt (e_var 2)) (.cons de_str (.cons (de_fmt (e_var 3)) (.cons de_str (.cons (de_fmt (e_var 4)) (.cons de_str (.cons (de_fmt (e_var 5)) DJ.nil))))))))))))))))))))
structure T_Cubic_discriminant (P : Program) (w : World) (K : PySem.W.Frag) (mg : Str → Option Value) (base : Heap) (cn : Cn) : Prop where
  a_own_discriminant : AttrOk cn "own_discriminant" ta_own_discriminant
theorem S_Cubic_discriminant : FnScope ["self"] ["self"] (defScope s_Cubic_discriminant) := ⟨rfl, rfl, rfl, by decide +kernel, rfl, by decide +kernel, by decide +kernel⟩
theorem R_Cubic_discriminant (hK : K = cn.K) (G : Gs mg) (T : T_Cubic_discriminant P w K mg base cn) (F : FunD K "discriminant" "Cubic.discriminant" (defArgs s_Cubic_discriminant) (defBody s_Cubic_discriminant) (defScope s_Cubic_discriminant) [] [] f fd) : FnR P w K mg base (L2.CX P w) 2 f (spF cn m_Cubic_discriminant) :=
  fn0 (k := 1) hK F S_Cubic_discriminant (FunD.bindsN F fun _ _ _ _ _ _ us hl => match us, hl with | [_], _ => rfl) fun cdv A outer s H E c Z =>
    (dss_one (ds_ret (e_attr Z T.a_own_discriminant (e_var 0))))
structure T_Cubic_second (P : Program) (w : World) (K : PySem.W.Frag) (mg : Str → Option Value) (base : Heap) (cn : Cn) : Prop where
  a_own_second : AttrOk cn "own_second" ta_own_second
theorem S_Cubic_second : FnScope ["self"] ["self"] (defScope s_Cubic_second) := ⟨rfl, rfl, rfl, by decide +kernel, rfl, by decide +kernel, by decide +kernel⟩
theorem R_Cubic_second (hK : K = cn.K) (G : Gs mg) (T : T_Cubic_second P w K mg base cn) (F : FunD K "second" "Cubic.second" (defArgs s_Cubic_second) (defBody s_Cubic_second) (defScope s_Cubic_second) [] [] f fd) : FnR P w K mg base (L2.CX P w) 2 f (spF cn m_Cubic_second) :=
  fn0 (k := 1) hK F S_Cubic_second (FunD.bindsN F fun _ _ _ _ _ _ us hl => match us, hl with | [_], _ => rfl) fun cdv A outer s H E c Z =>
    (dss_one (ds_ret (e_attr Z T.a_own_second (e_var 0))))
structure T__law_right (P : Program) (w : World) (K : PySem.W.Frag) (mg : Str → Option Value) (base : Heap) (cn : Cn) : Prop where
  d__law_at_right : Cal P w K mg base cn 10 "_law_at_right" m__law_at_right
  d__law_hc_cubic : Cal P w K mg base cn 6 "_law_hc_cubic" m__law_hc_cubic
  d__law_hc_numbers : Cal P w K mg base cn 2 "_law_hc_numbers" m__law_hc_numbers
  d__law_pick : Cal P w K mg base cn 4 "_law_pick" m__law_pick
  d__law_roll : Cal P w K mg base cn 2 "_law_roll" m__law_roll
  k_Cubic : Mkr P w K mg base cn 8 "Cubic" 0 i_Cubic
  p_discriminant : PrpOk P w mg base cn 2 "discriminant" tp_discriminant
  p_second : PrpOk P w mg base cn 2 "second" tp_second
theorem S__law_right : FnScope ["_law_dice_here", "_law_parts", "_law_turn", "_law_told", "_law_primes", "_law_prime"] ["_law_dice_here"] (defScope s__law_right) := ⟨rfl, rfl, rfl, by decide +kernel, rfl, by decide +kernel, by decide +kernel⟩
theorem R__law_right (hK : K = cn.K) (G : Gs mg) (T : T__law_right P w K mg base cn) (F : FunD K "_law_right" "_law_right" (defArgs s__law_right) (defBody s__law_right) (defScope s__law_right) [] [] f fd) : FnR P w K mg base (L2.CX P w) 12 f (spF cn m__law_right) :=
  fn0 (k := 11) hK F S__law_right (FunD.bindsN F fun _ _ _ _ _ _ us hl => match us, hl with | [_], _ => rfl) fun cdv A outer s H E c Z =>
    (dss_cons (ds_set (g_name 1 Z) (e_call Z T.d__law_hc_cubic (by decide) (da_cons (e_var 0) da_nil)))
    (dss_cons (ds_if (t_eq Z (e_call Z T.d__law_roll (by decide) (da_cons (e_var 0) (da_cons de_int da_nil))) de_int) (dss_one (ds_set (g_name 1 Z) (e_tuple Z G.f_tuple (de_frz (do_lc (own := [("_law_turn", 2)]) Z.calm Z.nd (di_range1 (by rfl) G.f_range (da_cons de_int da_nil)) (blkOk_by (N := ["_law_dice_here", "_law_parts", "_law_turn", "_law_told", "_law_primes", "_law_prime"]) (sc := defScope s__law_right) (own := [("_law_turn", 2)]) (by decide +kernel)) (by decide) (fun s H C cl fp => (dg_name (g_nm 2 Z.nd))) (fun s H C cl fp c1 h1 => dts_nil) (fun s H C cl fp c1 h1 => (e_sub (e_call (Ctx.blk Z h1 s H _ _ fp) T.d__law_roll (by decide) (da_cons (e_var 0) (da_cons de_int da_nil))) de_int))))))) dss_nil)
    (dss_cons (ds_set (g_name 3 Z) (e_make Z T.k_Cubic (by decide) (da_cons (e_ix Z (e_var 1) de_int) (da_cons (e_ix Z (e_var 1) de_int) (da_cons (e_ix Z (e_var 1) de_int) (da_cons (e_ix Z (e_var 1) de_int) (da_cons (e_ix Z (e_var 1) de_int) da_nil)))))))
    (dss_cons (ds_if (t_ne Z (de_tup (da_cons (e_prp Z (T.p_discriminant) (by decide) (e_var 3)) (da_cons (e_prp Z (T.p_second) (by decide) (e_var 3)) da_nil))) (e_call Z T.d__law_hc_numbers (by decide) (da_cons (e_var 1) da_nil))) (dss_one (ds_ret de_bl)) dss_nil)
    (dss_cons (ds_set (g_name 4 Z) (de_frz (do_lst (da_cons de_int (da_cons de_int (da_cons (e_call Z T.d__law_pick (by decide) (da_cons (e_var 0) (da_cons (de_frz (do_lst (da_cons de_int (da_cons de_int (da_cons de_int (da_cons de_int da_nil)))))) da_nil))) (da_cons (e_call Z T.d__law_pick (by decide) (da_cons (e_var 0) (da_cons (de_frz (do_lst (da_cons de_int (da_cons de_int (da_cons de_int (da_cons de_int (da_cons de_int (da_cons de_int da_nil)))))))) da_nil))) da_nil)))))))
    (dss_one (ds_ret (e_eq Z (de_frz (do_lc (own := [("_law_prime", 5)]) Z.calm Z.nd (r_list Z (e_var 4)) (blkOk_by (N := ["_law_dice_here", "_law_parts", "_law_turn", "_law_told", "_law_primes", "_law_prime"]) (sc := defScope s__law_right) (own := [("_law_prime", 5)]) (by decide +kernel)) (by decide) (fun s H C cl fp => (dg_name (g_nm 5 Z.nd))) (fun s H C cl fp c1 h1 => (dts_one (dt_not (t_tru (Ctx.blk Z h1 s H _ _ fp) (e_call (Ctx.blk Z h1 s H _ _ fp) T.d__law_at_right (by decide) (da_cons (e_var 3) (da_cons (e_var 1) (da_cons (e_var 5) da_nil)))))))) (fun s H C cl fp c1 h1 => (e_var 5)))) (de_frz (do_lst da_nil))))))))))
structure T_law (P : Program) (w : World) (K : PySem.W.Frag) (mg : Str → Option Value) (base : Heap) (cn : Cn) : Prop where
  d__law_dice : Cal P w K mg base cn 2 "_law_dice" m__law_dice
  d__law_right : Cal P w K mg base cn 12 "_law_right" m__law_right
  k_Cubic : Mkr P w K mg base cn 8 "Cubic" 0 i_Cubic
  q_kind_at : MthOk P w mg base cn 8 "kind_at" tm_kind_at
  q_trace_at : MthOk P w mg base cn 8 "trace_at" tm_trace_at
  p_discriminant : PrpOk P w mg base cn 2 "discriminant" tp_discriminant
  p_second : PrpOk P w mg base cn 2 "second" tp_second
theorem S_law : FnScope ["_law_script", "_law_spot", "_law_dice_here", "_law_first", "_law_last", "_law_prime"] ["_law_script"] (defScope s_law) := ⟨rfl, rfl, rfl, by decide +kernel, rfl, by decide +kernel, by decide +kernel⟩
theorem O_law (hK : K = cn.K) (G : Gs mg) (T : T_law P w K mg base cn) (F : FunD K "law" "law" (defArgs s_law) (defBody s_law) (defScope s_law) [] [] f fd) : FnOk P w K mg base (L2.CX P w) 14 f fd ["_law_script"] (fun vs H Q E => vs.length = 1 ∧ spF cn m_law vs H Q E) :=
  fo0 (k := 13) hK F S_law fun cdv A outer s H E c Z =>
    (dss_cons (ds_for Z.pass Z.calm (di_range1 (by rfl) G.f_range (da_cons (e_max Z G.f_max de_int (e_min Z G.f_min de_int (e_len Z G.f_len (e_var 0)))) da_nil)) (dg_name (g_nm 1 Z.nd)) (dss_cons (ds_setO (g_name 2 Z) (o_call Z T.d__law_dice (by decide) (da_cons (e_var 0) (da_cons (e_var 1) da_nil))))
    (dss_one (ds_if (dt_w (dw_or (dt_not (t_tru Z (e_lend Z T.d__law_right (by decide) 2 da_nil (pv 2)))) (dw_or1 (dt_not (t_tru Z (e_lend Z T.d__law_right (by decide) 2 da_nil (pv 2))))))) (dss_one (ds_ret de_bl)) dss_nil))))
    (dss_cons (ds_asg (de_tup (da_cons (e_make Z T.k_Cubic (by decide) (da_cons de_int (da_cons (e_neg de_int) (da_cons de_int (da_cons de_int (da_cons de_int da_nil)))))) (da_cons (e_make Z T.k_Cubic (by decide) (da_cons de_int (da_cons de_int (da_cons de_int (da_cons (e_neg de_int) (da_cons de_int da_nil)))))) da_nil))) (dg_tup Z.calm Z.hK (dgs_cons (dg_name (g_nm 3 Z.nd)) (dgs_cons (dg_name (g_nm 4 Z.nd)) dgs_nil))))
    (dss_cons (ds_if (t_ne Z (de_frz (do_lc (own := [("_law_prime", 5)]) Z.calm Z.nd (r_list Z (de_tup (da_cons de_int (da_cons de_int (da_cons de_int (da_cons de_int (da_cons de_int (da_cons de_int da_nil)))))))) (blkOk_by (N := ["_law_script", "_law_spot", "_law_dice_here", "_law_first", "_law_last", "_law_prime"]) (sc := defScope s_law) (own := [("_law_prime", 5)]) (by decide +kernel)) (by decide) (fun s H C cl fp => (dg_name (g_nm 5 Z.nd))) (fun s H C cl fp c1 h1 => dts_nil) (fun s H C cl fp c1 h1 => (e_mth (Ctx.blk Z h1 s H _ _ fp) T.q_trace_at (by decide) (e_var 3) (da_cons (e_var 5) da_nil))))) (de_frz (do_lst (da_cons (e_neg de_int) (da_cons (e_neg de_int) (da_cons de_int (da_cons (e_neg de_int) (da_cons de_int (da_cons de_int da_nil))))))))) (dss_one (ds_ret de_bl)) dss_nil)
    (dss_cons (ds_if (t_ne Z (de_frz (do_lc (own := [("_law_prime", 5)]) Z.calm Z.nd (r_list Z (de_tup (da_cons de_int (da_cons de_int (da_cons de_int (da_cons de_int (da_cons de_int da_nil))))))) (blkOk_by (N := ["_law_script", "_law_spot", "_law_dice_here", "_law_first", "_law_last", "_law_prime"]) (sc := defScope s_law) (own := [("_law_prime", 5)]) (by decide +kernel)) (by decide) (fun s H C cl fp => (dg_name (g_nm 5 Z.nd))) (fun s H C cl fp c1 h1 => dts_nil) (fun s H C cl fp c1 h1 => (e_mth (Ctx.blk Z h1 s H _ _ fp) T.q_trace_at (by decide) (e_var 4) (da_cons (e_var 5) da_nil))))) (de_frz (do_lst (da_cons (e_neg de_int) (da_cons (e_neg de_int) (da_cons (e_neg de_int) (da_cons (e_neg de_int) (da_cons (e_neg de_int) da_nil)))))))) (dss_one (ds_ret de_bl)) dss_nil)
    (dss_one (ds_ret (e_eq Z (de_frz (do_lst (da_cons (e_prp Z (T.p_discriminant) (by decide) (e_var 3)) (da_cons (e_prp Z (T.p_second) (by decide) (e_var 3)) (da_cons (e_mth Z T.q_kind_at (by decide) (e_var 3) (da_cons de_int da_nil)) (da_cons (e_mth Z T.q_kind_at (by decide) (e_make Z T.k_Cubic (by decide) (da_cons de_int (da_cons de_int (da_cons de_int (da_cons de_int (da_cons de_int da_nil)))))) (da_cons de_int da_nil)) da_nil)))))) (de_frz (do_lst (da_cons (e_neg de_int) (da_cons de_int (da_cons de_str (da_cons de_str da_nil)))))))))))))
end
end K74

namespace K74
open PySem PySem.Spec PyProof.Rows L2 Dx
def tst : TstX := ⟨[fun K => (He.Fa.int "FAR" (1000000000000000000000000000000000000000000000000000000000000)).ok K,
   fun K => (He.Fa.int "MAX_COUNTED" (97)).ok K,
   fun K => (He.Fa.int "MAX_ENTRY" (1000)).ok K,
   fun K => (He.Fa.int "MAX_FACTORED" (1000000000)).ok K,
   fun K => (He.Fa.free "abs").ok K,
   fun K => (He.Fa.free "all").ok K,
   fun K => (He.Fa.free "bool").ok K,
   fun K => (He.Fa.free "int").ok K,
   fun K => (He.Fa.free "isinstance").ok K,
   fun K => (He.Fa.free "len").ok K,
   fun K => (He.Fa.free "list").ok K,
   fun K => (He.Fa.free "max").ok K,
   fun K => (He.Fa.free "min").ok K,
   fun K => (He.Fa.free "range").ok K,
   fun K => (He.Fa.free "tuple").ok K,
   fun K => (He.Fa.glo "_law_dice").ok K,
   fun K => (He.Fa.glo "_law_roll").ok K,
   fun K => (He.Fa.glo "_law_pick").ok K,
   fun K => (He.Fa.glo "_law_hc_cubic").ok K,
   fun K => (He.Fa.glo "_law_hc_numbers").ok K,
   fun K => (He.Fa.glo "_law_hc_holds").ok K,
   fun K => (He.Fa.glo "_law_hc_trace").ok K,
   fun K => (He.Fa.glo "_law_hc_kind").ok K,
   fun K => (He.Fa.glo "_law_singular").ok K,
   fun K => (He.Fa.glo "is_plain").ok K,
   fun K => (He.Fa.glo "powers_in").ok K,
   fun K => (He.Fa.glo "is_prime").ok K,
   fun K => (He.Fa.glo "need_prime").ok K,
   fun K => (He.Fa.glo "_law_at_right").ok K,
   fun K => (He.Fa.glo "is_short").ok K,
   fun K => (He.Fa.glo "is_integer").ok K,
   fun K => (He.Fa.glo "_law_right").ok K,
   fun K => (He.Fa.glo "law").ok K,
   fun K => (He.Fa.glo "Cubic").ok K,
   fun K => sclB K (He.ga K "Cubic"),
   fun K => slB K (He.ga K "Cubic") "own_entries" 1,
   fun K => meB K (He.ga K "Cubic") "count_pairs",
   fun K => slB K (He.ga K "Cubic") "own_discriminant" 0,
   fun K => slB K (He.ga K "Cubic") "own_second" 2,
   fun K => meB K (He.ga K "Cubic") "kind_in",
   fun K => meB K (He.ga K "Cubic") "kind_at",
   fun K => meB K (He.ga K "Cubic") "trace_at",
   fun K => slB K (He.ga K "Cubic") "own_text" 3,
   fun K => mkB K (He.ga K "Cubic"),
   fun K => pvB K (He.ga K "Cubic") "discriminant",
   fun K => pvB K (He.ga K "Cubic") "second"],
  [⟨fun K => He.ga K "_law_dice", "_law_dice", "_law_dice", s__law_dice⟩,
   ⟨fun K => He.ga K "_law_roll", "_law_roll", "_law_roll", s__law_roll⟩,
   ⟨fun K => He.ga K "_law_pick", "_law_pick", "_law_pick", s__law_pick⟩,
   ⟨fun K => He.ga K "_law_hc_cubic", "_law_hc_cubic", "_law_hc_cubic", s__law_hc_cubic⟩,
   ⟨fun K => He.ga K "_law_hc_numbers", "_law_hc_numbers", "_law_hc_numbers", s__law_hc_numbers⟩,
   ⟨fun K => He.ga K "_law_hc_holds", "_law_hc_holds", "_law_hc_holds", s__law_hc_holds⟩,
   ⟨fun K => He.ga K "_law_hc_trace", "_law_hc_trace", "_law_hc_trace", s__law_hc_trace⟩,
   ⟨fun K => He.ga K "_law_hc_kind", "_law_hc_kind", "_law_hc_kind", s__law_hc_kind⟩,
   ⟨fun K => He.ga K "_law_singular", "_law_singular", "_law_singular", s__law_singular⟩,
   ⟨fun K => He.ga K "is_plain", "is_plain", "is_plain", s_is_plain⟩,
   ⟨fun K => He.ga K "powers_in", "powers_in", "powers_in", s_powers_in⟩,
   ⟨fun K => He.ga K "is_prime", "is_prime", "is_prime", s_is_prime⟩,
   ⟨fun K => He.ga K "need_prime", "need_prime", "need_prime", s_need_prime⟩,
   ⟨fun K => atX K (He.ga K "Cubic") "count_pairs", "count_pairs", "Cubic.count_pairs", s_Cubic_count_pairs⟩,
   ⟨fun K => atX K (He.ga K "Cubic") "trace_at", "trace_at", "Cubic.trace_at", s_Cubic_trace_at⟩,
   ⟨fun K => atX K (He.ga K "Cubic") "kind_in", "kind_in", "Cubic.kind_in", s_Cubic_kind_in⟩,
   ⟨fun K => atX K (He.ga K "Cubic") "kind_at", "kind_at", "Cubic.kind_at", s_Cubic_kind_at⟩,
   ⟨fun K => He.ga K "_law_at_right", "_law_at_right", "_law_at_right", s__law_at_right⟩,
   ⟨fun K => He.ga K "is_short", "is_short", "is_short", s_is_short⟩,
   ⟨fun K => He.ga K "is_integer", "is_integer", "is_integer", s_is_integer⟩,
   ⟨fun K => atX K (He.ga K "Cubic") "__init__", "__init__", "Cubic.__init__", s_Cubic_init⟩,
   ⟨fun K => prX K (He.ga K "Cubic") "discriminant", "discriminant", "Cubic.discriminant", s_Cubic_discriminant⟩,
   ⟨fun K => prX K (He.ga K "Cubic") "second", "second", "Cubic.second", s_Cubic_second⟩,
   ⟨fun K => He.ga K "_law_right", "_law_right", "_law_right", s__law_right⟩,
   ⟨fun K => He.ga K "law", "law", "law", s_law⟩]⟩
def cnK (K : PySem.W.Frag) : Cn := ⟨K, fun n => match n with
  | 0 => He.ga K "Cubic"
  | _ => 0, fun _ => 0, fun _ => Str.empty⟩
section
variable {P : Program} {w : World} {K : PySem.W.Frag} {h : Heap} {mg : Str → Option Value} {base : Heap}
theorem gs (X : K.In h) (G : h.Ns mainGlobals mg) (c : tst.see K = tst.due) : Gs mg :=
  ⟨He.int_ok X G (TstX.tst c 0),
   He.int_ok X G (TstX.tst c 1),
   He.int_ok X G (TstX.tst c 2),
   He.int_ok X G (TstX.tst c 3),
   He.free_ok X G (TstX.tst c 4),
   He.free_ok X G (TstX.tst c 5),
   He.free_ok X G (TstX.tst c 6),
   He.free_ok X G (TstX.tst c 7),
   He.free_ok X G (TstX.tst c 8),
   He.free_ok X G (TstX.tst c 9),
   He.free_ok X G (TstX.tst c 10),
   He.free_ok X G (TstX.tst c 11),
   He.free_ok X G (TstX.tst c 12),
   He.free_ok X G (TstX.tst c 13),
   He.free_ok X G (TstX.tst c 14)⟩
theorem all (X : K.In h) (G : h.Ns mainGlobals mg) (c : tst.see K = tst.due) :
    T_law P w K mg base (cnK K) := by
  have g := gs X G c
  have t__law_dice : T__law_dice P w K mg base (cnK K) := ⟨True.intro⟩
  have t__law_roll : T__law_roll P w K mg base (cnK K) := ⟨True.intro⟩
  have d__law_roll : Cal P w K mg base (cnK K) 2 "_law_roll" m__law_roll := by
    obtain ⟨fd, F⟩ := TstX.def_ c 1
    exact ⟨_, R__law_roll rfl g t__law_roll F, He.glo_ok X G (TstX.tst c 16), F.kp⟩
  have t__law_pick : T__law_pick P w K mg base (cnK K) := ⟨d__law_roll⟩
  have d__law_pick : Cal P w K mg base (cnK K) 4 "_law_pick" m__law_pick := by
    obtain ⟨fd, F⟩ := TstX.def_ c 2
    exact ⟨_, R__law_pick rfl g t__law_pick F, He.glo_ok X G (TstX.tst c 17), F.kp⟩
  have t__law_hc_cubic : T__law_hc_cubic P w K mg base (cnK K) := ⟨d__law_pick, d__law_roll⟩
  have t__law_hc_numbers : T__law_hc_numbers P w K mg base (cnK K) := ⟨True.intro⟩
  have t__law_hc_holds : T__law_hc_holds P w K mg base (cnK K) := ⟨True.intro⟩
  have d__law_hc_holds : Cal P w K mg base (cnK K) 2 "_law_hc_holds" m__law_hc_holds := by
    obtain ⟨fd, F⟩ := TstX.def_ c 5
    exact ⟨_, R__law_hc_holds rfl g t__law_hc_holds F, He.glo_ok X G (TstX.tst c 20), F.kp⟩
  have t__law_hc_trace : T__law_hc_trace P w K mg base (cnK K) := ⟨d__law_hc_holds⟩
  have d__law_hc_numbers : Cal P w K mg base (cnK K) 2 "_law_hc_numbers" m__law_hc_numbers := by
    obtain ⟨fd, F⟩ := TstX.def_ c 4
    exact ⟨_, R__law_hc_numbers rfl g t__law_hc_numbers F, He.glo_ok X G (TstX.tst c 19), F.kp⟩
  have t__law_hc_kind : T__law_hc_kind P w K mg base (cnK K) := ⟨d__law_hc_numbers⟩
  have t__law_singular : T__law_singular P w K mg base (cnK K) := ⟨d__law_hc_holds⟩
  have t_is_plain : T_is_plain P w K mg base (cnK K) := ⟨True.intro⟩
  have t_powers_in : T_powers_in P w K mg base (cnK K) := ⟨True.intro⟩
  have d_is_plain : Cal P w K mg base (cnK K) 2 "is_plain" m_is_plain := by
    obtain ⟨fd, F⟩ := TstX.def_ c 9
    exact ⟨_, R_is_plain rfl g t_is_plain F, He.glo_ok X G (TstX.tst c 24), F.kp⟩
  have d_powers_in : Cal P w K mg base (cnK K) 2 "powers_in" m_powers_in := by
    obtain ⟨fd, F⟩ := TstX.def_ c 10
    exact ⟨_, R_powers_in rfl g t_powers_in F, He.glo_ok X G (TstX.tst c 25), F.kp⟩
  have t_is_prime : T_is_prime P w K mg base (cnK K) := ⟨d_is_plain, d_powers_in⟩
  have d_is_prime : Cal P w K mg base (cnK K) 4 "is_prime" m_is_prime := by
    obtain ⟨fd, F⟩ := TstX.def_ c 11
    exact ⟨_, R_is_prime rfl g t_is_prime F, He.glo_ok X G (TstX.tst c 26), F.kp⟩
  have t_need_prime : T_need_prime P w K mg base (cnK K) := ⟨d_is_prime⟩
  have a_own_entries : AttrOk (cnK K) "own_entries" ta_own_entries := by
    intro n i e
    unfold ta_own_entries at e
    split at e
    · cases e
      exact ⟨sclB_ok (TstX.tst c 34), _, slB_ok (TstX.tst c 35)⟩
    · cases e
  have t_Cubic_count_pairs : T_Cubic_count_pairs P w K mg base (cnK K) := ⟨a_own_entries⟩
  have d_need_prime : Cal P w K mg base (cnK K) 6 "need_prime" m_need_prime := by
    obtain ⟨fd, F⟩ := TstX.def_ c 12
    exact ⟨_, R_need_prime rfl g t_need_prime F, He.glo_ok X G (TstX.tst c 27), F.kp⟩
  have q_count_pairs : MthOk P w mg base (cnK K) 2 "count_pairs" tm_count_pairs := by
    refine ⟨fun n m e => ?_⟩
    unfold tm_count_pairs at e
    split at e
    · cases e
      obtain ⟨fd, F⟩ := TstX.def_ c 13
      exact ⟨sclB_ok (TstX.tst c 34), _, meB_ok (TstX.tst c 36), (R_Cubic_count_pairs rfl g t_Cubic_count_pairs F).mono (by decide)⟩
    · cases e
  have t_Cubic_trace_at : T_Cubic_trace_at P w K mg base (cnK K) := ⟨d_need_prime, q_count_pairs⟩
  have a_own_discriminant : AttrOk (cnK K) "own_discriminant" ta_own_discriminant := by
    intro n i e
    unfold ta_own_discriminant at e
    split at e
    · cases e
      exact ⟨sclB_ok (TstX.tst c 34), _, slB_ok (TstX.tst c 37)⟩
    · cases e
  have a_own_second : AttrOk (cnK K) "own_second" ta_own_second := by
    intro n i e
    unfold ta_own_second at e
    split at e
    · cases e
      exact ⟨sclB_ok (TstX.tst c 34), _, slB_ok (TstX.tst c 38)⟩
    · cases e
  have t_Cubic_kind_in : T_Cubic_kind_in P w K mg base (cnK K) := ⟨a_own_discriminant, a_own_second⟩
  have q_kind_in : MthOk P w mg base (cnK K) 2 "kind_in" tm_kind_in := by
    refine ⟨fun n m e => ?_⟩
    unfold tm_kind_in at e
    split at e
    · cases e
      obtain ⟨fd, F⟩ := TstX.def_ c 15
      exact ⟨sclB_ok (TstX.tst c 34), _, meB_ok (TstX.tst c 39), (R_Cubic_kind_in rfl g t_Cubic_kind_in F).mono (by decide)⟩
    · cases e
  have t_Cubic_kind_at : T_Cubic_kind_at P w K mg base (cnK K) := ⟨d_need_prime, q_kind_in⟩
  have d__law_hc_kind : Cal P w K mg base (cnK K) 4 "_law_hc_kind" m__law_hc_kind := by
    obtain ⟨fd, F⟩ := TstX.def_ c 7
    exact ⟨_, R__law_hc_kind rfl g t__law_hc_kind F, He.glo_ok X G (TstX.tst c 22), F.kp⟩
  have d__law_hc_trace : Cal P w K mg base (cnK K) 4 "_law_hc_trace" m__law_hc_trace := by
    obtain ⟨fd, F⟩ := TstX.def_ c 6
    exact ⟨_, R__law_hc_trace rfl g t__law_hc_trace F, He.glo_ok X G (TstX.tst c 21), F.kp⟩
  have d__law_singular : Cal P w K mg base (cnK K) 4 "_law_singular" m__law_singular := by
    obtain ⟨fd, F⟩ := TstX.def_ c 8
    exact ⟨_, R__law_singular rfl g t__law_singular F, He.glo_ok X G (TstX.tst c 23), F.kp⟩
  have q_kind_at : MthOk P w mg base (cnK K) 8 "kind_at" tm_kind_at := by
    refine ⟨fun n m e => ?_⟩
    unfold tm_kind_at at e
    split at e
    · cases e
      obtain ⟨fd, F⟩ := TstX.def_ c 16
      exact ⟨sclB_ok (TstX.tst c 34), _, meB_ok (TstX.tst c 40), (R_Cubic_kind_at rfl g t_Cubic_kind_at F).mono (by decide)⟩
    · cases e
  have q_trace_at : MthOk P w mg base (cnK K) 8 "trace_at" tm_trace_at := by
    refine ⟨fun n m e => ?_⟩
    unfold tm_trace_at at e
    split at e
    · cases e
      obtain ⟨fd, F⟩ := TstX.def_ c 14
      exact ⟨sclB_ok (TstX.tst c 34), _, meB_ok (TstX.tst c 41), (R_Cubic_trace_at rfl g t_Cubic_trace_at F).mono (by decide)⟩
    · cases e
  have t__law_at_right : T__law_at_right P w K mg base (cnK K) := ⟨d__law_hc_kind, d__law_hc_trace, d__law_singular, q_kind_at, q_trace_at⟩
  have t_is_short : T_is_short P w K mg base (cnK K) := ⟨d_is_plain⟩
  have d_is_short : Cal P w K mg base (cnK K) 4 "is_short" m_is_short := by
    obtain ⟨fd, F⟩ := TstX.def_ c 18
    exact ⟨_, R_is_short rfl g t_is_short F, He.glo_ok X G (TstX.tst c 29), F.kp⟩
  have t_is_integer : T_is_integer P w K mg base (cnK K) := ⟨d_is_short⟩
  have d_is_integer : Cal P w K mg base (cnK K) 6 "is_integer" m_is_integer := by
    obtain ⟨fd, F⟩ := TstX.def_ c 19
    exact ⟨_, R_is_integer rfl g t_is_integer F, He.glo_ok X G (TstX.tst c 30), F.kp⟩
  have a_own_text : AttrOk (cnK K) "own_text" ta_own_text := by
    intro n i e
    unfold ta_own_text at e
    split at e
    · cases e
      exact ⟨sclB_ok (TstX.tst c 34), _, slB_ok (TstX.tst c 42)⟩
    · cases e
  have t_Cubic_init : T_Cubic_init P w K mg base (cnK K) := ⟨d_is_integer, a_own_discriminant, a_own_entries, a_own_second, a_own_text⟩
  have t_Cubic_discriminant : T_Cubic_discriminant P w K mg base (cnK K) := ⟨a_own_discriminant⟩
  have t_Cubic_second : T_Cubic_second P w K mg base (cnK K) := ⟨a_own_second⟩
  have d__law_at_right : Cal P w K mg base (cnK K) 10 "_law_at_right" m__law_at_right := by
    obtain ⟨fd, F⟩ := TstX.def_ c 17
    exact ⟨_, R__law_at_right rfl g t__law_at_right F, He.glo_ok X G (TstX.tst c 28), F.kp⟩
  have d__law_hc_cubic : Cal P w K mg base (cnK K) 6 "_law_hc_cubic" m__law_hc_cubic := by
    obtain ⟨fd, F⟩ := TstX.def_ c 3
    exact ⟨_, R__law_hc_cubic rfl g t__law_hc_cubic F, He.glo_ok X G (TstX.tst c 18), F.kp⟩
  have k_Cubic : Mkr P w K mg base (cnK K) 8 "Cubic" 0 i_Cubic := by
    obtain ⟨fd, F⟩ := TstX.def_ c 20
    exact ⟨_, mkB_ok (TstX.tst c 43), R_Cubic_init rfl g t_Cubic_init F, He.glo_ok X G (TstX.tst c 33)⟩
  have p_discriminant : PrpOk P w mg base (cnK K) 2 "discriminant" tp_discriminant := by
    refine ⟨fun n m e => ?_⟩
    unfold tp_discriminant at e
    split at e
    · cases e
      obtain ⟨fd, F⟩ := TstX.def_ c 21
      obtain ⟨b1, b2, b3, b4⟩ := pvB_ok (TstX.tst c 44 : pvB K (He.ga K "Cubic") "discriminant" = true)
      exact ⟨sclB_ok (TstX.tst c 34), _, _, b1, b2, b3, b4, (R_Cubic_discriminant rfl g t_Cubic_discriminant F).mono (by decide)⟩
    · cases e
  have p_second : PrpOk P w mg base (cnK K) 2 "second" tp_second := by
    refine ⟨fun n m e => ?_⟩
    unfold tp_second at e
    split at e
    · cases e
      obtain ⟨fd, F⟩ := TstX.def_ c 22
      obtain ⟨b1, b2, b3, b4⟩ := pvB_ok (TstX.tst c 45 : pvB K (He.ga K "Cubic") "second" = true)
      exact ⟨sclB_ok (TstX.tst c 34), _, _, b1, b2, b3, b4, (R_Cubic_second rfl g t_Cubic_second F).mono (by decide)⟩
    · cases e
  have t__law_right : T__law_right P w K mg base (cnK K) := ⟨d__law_at_right, d__law_hc_cubic, d__law_hc_numbers, d__law_pick, d__law_roll, k_Cubic, p_discriminant, p_second⟩
  have d__law_dice : Cal P w K mg base (cnK K) 2 "_law_dice" m__law_dice := by
    obtain ⟨fd, F⟩ := TstX.def_ c 0
    exact ⟨_, R__law_dice rfl g t__law_dice F, He.glo_ok X G (TstX.tst c 15), F.kp⟩
  have d__law_right : Cal P w K mg base (cnK K) 12 "_law_right" m__law_right := by
    obtain ⟨fd, F⟩ := TstX.def_ c 23
    exact ⟨_, R__law_right rfl g t__law_right F, He.glo_ok X G (TstX.tst c 31), F.kp⟩
  have t_law : T_law P w K mg base (cnK K) := ⟨d__law_dice, d__law_right, k_Cubic, q_kind_at, q_trace_at, p_discriminant, p_second⟩
  exact t_law
theorem fin {fa : Addr} (X : K.In h) (G : h.Ns mainGlobals mg) (hfa : mg "law" = some (.ref fa)) (c : tst.see K = tst.due) :
    ∃ (K : PySem.W.Frag) (fd : FuncData) (sp : Sp), K.In h ∧ (∀ (s : Shared) (u : Value), BindsTo s fd ⟨[u], []⟩ [("_law_script", u)]) ∧
      (∀ (H : Hp) (a : Addr) (ns : List Int), ns.length ≤ 63 → Only H → SqL K H a (ns.map V.int) → sp [.ref a] H (fun v _ => v = .bl true) fun _ _ _ => False) ∧
      ∀ base : Heap, K.In base → base.Ns mainGlobals mg → FnOk P w K mg base CX0 14 fa fd ["_law_script"] sp := by
  obtain ⟨fd, F⟩ := TstX.def_ c 24
  have e := hfa.symm.trans (He.glo_ok X G (TstX.tst c 32))
  cases e
  have b := FunD.bindsA (ps := ["_law_script"]) F fun _ _ _ _ _ _ us hl => match us, hl with | [_], _ => rfl
  exact ⟨K, fd, _, X, fun s v => b s [v] rfl, fun H a ns hl _ hS => law_true rfl plain H a ns hl hS, fun base _ _ => law_fin (O_law rfl (gs X G c) (all X G c) F)⟩
end
abbrev Rr : PySem.W.OpenRow := PySem.W.OpenLaw.row PySem.Challenge.rw_lawseries_k74_whole_traces_and_kinds_of
abbrev qv : Program := PySem.W.view Rr.prog [31]
def loose0 : List PySem.Str := ["_wall", "SeriesError", "InvalidPrime", "InvalidCubic", "FAR", "is_plain", "is_short", "MAX_FACTORED", "is_integer", "powers_in", "is_prime", "MAX_ENTRY", "MAX_COUNTED", "need_prime", "Cubic", "_law_dice", "_law_roll", "_law_pick", "_law_hc_cubic", "_law_hc_holds", "_law_hc_trace", "_law_hc_numbers", "_law_hc_kind", "_law_singular", "_law_at_right", "_law_right"]
def loose : List PySem.Str := loose0
theorem run (w : World) : HandSHeadRun.RunEq Rr qv (tst.hook 7) (tst.ob 7) 4000 loose w := by
  intro os
  kernel_rfl
end K74
open PySem PySem.W PySem.Calls PyProof.Rows
set_option maxHeartbeats 0 in
theorem PySem.Challenge.cw_lawseries_k74_whole_traces_and_kinds_of_holds : PySem.Challenge.rw_lawseries_k74_whole_traces_and_kinds_of.Holds := by
  w_on; o_law
  refine HandSHeadRun.head_any (r := OpenLaw.row PySem.Challenge.rw_lawseries_k74_whole_traces_and_kinds_of) (q := view (OpenLaw.row PySem.Challenge.rw_lawseries_k74_whole_traces_and_kinds_of).prog [31]) (H := K74.tst.hook 7) (ob := K74.tst.ob 7) (M := 4000) (loose := K74.loose) (d := HandSHeadRun.topDef (OpenLaw.row PySem.Challenge.rw_lawseries_k74_whole_traces_and_kinds_of).prog 31) (kwd := []) (K74.tst.ob_eq 7)
    (by kernel_rfl) (fun s => by kernel_rfl) K74.run (by kernel_rfl) (by kernel_rfl) (by kernel_rfl) (by rfl) (by first | assumption | decide +kernel) (by decide +kernel) ⟨rfl, rfl, rfl, rfl, rfl, by decide +kernel⟩ ?hw ?hc
  case hw => w_witness2
  case hc =>
    refine L2.walk_ofE (l := PySem.Challenge.rw_lawseries_k74_whole_traces_and_kinds_of) (n := 63) (k := 14) (x := "_law_script") (CX := L2.CX0) rfl (by decide) (by kernel_rfl) ⟨rfl, by decide, by decide⟩ ?F (fun _ _ _ _ z => z)
    intro w mg fa h Y G hmg0
    obtain ⟨K, KX, c⟩ := Y
    have hmg : mg ("law" : PySem.Str) = some (.ref fa) := by
      have e : (HandSHeadRun.topDef (OpenLaw.row PySem.Challenge.rw_lawseries_k74_whole_traces_and_kinds_of).prog 31).name = ("law" : PySem.Str) := by kernel_rfl
      rw [<- e]
      exact hmg0
    exact K74.fin KX G hmg c
