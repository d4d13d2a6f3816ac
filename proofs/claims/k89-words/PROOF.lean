import PyProof.Rows.All
import Wide.All
import OpenK.AllK
import Wide.FinOn
import HandS.ForMost
import HandS.Exc
import HandS.ExcOwn
import HandS.TryOnly
import HandS.ExcIs
import HandS.Codes
import HandS.Defaults
import HandS.IsInst
import HandS.TupAny
import HandS.Deep
import HandS.Flow
import HandS.Style
import HandS.RaiseMore
import HandS.HeadHook2
import HandS.HeadEnd
import HandS.Head2
import PySem.Challenge.RW_firstway_k89_saved_words
set_option Elab.async false
set_option linter.all false
set_option maxRecDepth 100000
set_option maxHeartbeats 4000000
/-! Y1: values without addresses for tuples (D), the heap of what changes (Hd), how both stand to the layer's V and Hp. -/
namespace Y
open PySem PySem.Spec PyProof.Rows L2

/-- a value: tuples are data; rol: a list that nobody changes; ref: a list, dict or instance that stands in the heap -/
inductive D where
  | non | bl (b : Bool) | int (i : Int) | str (x : Str) | tup (ds : List D) | rol (ds : List D) | ref (a : Addr) | ty (n : String)
/-- what stands at an address -/
inductive O where
  | lst (ds : List D)
  | ins (C : Nat) (fs : List (Str × D))
abbrev Hd := Addr → Option O
def up (H : Hd) (a : Addr) (o : O) : Hd := fun b => if b = a then some o else H b
theorem up_same {H : Hd} {a : Addr} {o : O} : up H a o a = some o := if_pos rfl
theorem up_ne {H : Hd} {a b : Addr} {o : O} (h : b ≠ a) : up H a o b = H b := if_neg h
theorem up_up {H : Hd} {a : Addr} {o o' : O} : up (up H a o) a o' = up H a o' := by
  funext b
  by_cases h : b = a
  · subst h; rw [up_same, up_same]
  · rw [up_ne h, up_ne h, up_ne h]
/-- nothing of H is lost -/
def Ext (H H' : Hd) : Prop := ∀ a o, H a = some o → H' a = some o
theorem Ext.refl (H : Hd) : Ext H H := fun _ _ h => h
theorem Ext.trans {H H1 H2 : Hd} (a : Ext H H1) (b : Ext H1 H2) : Ext H H2 := fun x o h => b x o (a x o h)
theorem Ext.new {H : Hd} {p : Addr} {o : O} (h : H p = none) : Ext H (up H p o) := fun a u e => by
  have : a ≠ p := fun z => by subst z; rw [h] at e; cases e
  rw [up_ne this]; exact e
theorem Ext.none {H H' : Hd} (e : Ext H H') {p : Addr} (h : H' p = none) : H p = none := by
  cases q : H p with
  | none => rfl
  | some o => rw [e p o q] at h; cases h
theorem ne_no {H : Hd} {a b : Addr} {o : O} (h : H a = some o) (n : H b = none) : a ≠ b := fun z => by
  subst z; rw [n] at h; cases h

/-- a list that is only read: the script, or one of the module's own -/
def Frz (K : PySem.W.Frag) (H : Hp) (a : Addr) (vs : List V) : Prop :=
  (∃ ob, H a = some (.frz ob (.lst vs))) ∨ ∃ (o : Obj) (its : Array Value) (n : Nat), K.lookup a = some o ∧ o.cls = .type "list" ∧ o.dict = none ∧ o.data = .seq its n ∧ its.size ≤ sizeLine ∧ Vals vs its.toList
theorem Frz.seq {K : PySem.W.Frag} {H : Hp} {a : Addr} {vs : List V} (h : Frz K H a vs) : SqL K H a vs := by
  rcases h with ⟨ob, h⟩ | h
  · exact .inl (.inr ⟨ob, h⟩)
  · exact .inr h
mutual
inductive RD (K : PySem.W.Frag) (H : Hp) : D → V → Prop
  | non : RD K H .non .non
  | bl (b : Bool) : RD K H (.bl b) (.bl b)
  | int (i : Int) : RD K H (.int i) (.int i)
  | str (x : Str) : RD K H (.str x) (.str x)
  | ref (a : Addr) : RD K H (.ref a) (.ref a)
  | ty (n : String) : RD K H (.ty n) (.ty n)
  | tup {a : Addr} {vs : List V} {ds : List D} : SqT K H a vs → RDs K H ds vs → RD K H (.tup ds) (.ref a)
  | rol {a : Addr} {vs : List V} {ds : List D} : Frz K H a vs → RDs K H ds vs → RD K H (.rol ds) (.ref a)
inductive RDs (K : PySem.W.Frag) (H : Hp) : List D → List V → Prop
  | nil : RDs K H [] []
  | cons {d : D} {v : V} {ds : List D} {vs : List V} : RD K H d v → RDs K H ds vs → RDs K H (d :: ds) (v :: vs)
end
/-- tuples and read-only lists stay -/
structure Tk (K : PySem.W.Frag) (H H' : Hp) : Prop where
  t : ∀ a vs, SqT K H a vs → SqT K H' a vs
  f : ∀ a vs, Frz K H a vs → Frz K H' a vs
theorem Tk.refl {K : PySem.W.Frag} (H : Hp) : Tk K H H := ⟨fun _ _ h => h, fun _ _ h => h⟩
theorem Tk.trans {K : PySem.W.Frag} {H H1 H2 : Hp} (a : Tk K H H1) (b : Tk K H1 H2) : Tk K H H2 := ⟨fun x vs h => b.t x vs (a.t x vs h), fun x vs h => b.f x vs (a.f x vs h)⟩
/-- where the place is free, or holds what is neither tuple nor frozen -/
def Fluid : Option HO → Prop
  | some (.tup _) => False
  | some (.frz _ _) => False
  | _ => True
theorem Tk.upd {K : PySem.W.Frag} {H : Hp} {p : Addr} {o : HO} (h : Fluid (H p)) : Tk K H (upd H p o) := by
  have ne : ∀ {a : Addr} {u : HO}, H a = some u → ¬ Fluid (some u) → a ≠ p := fun {a u} e nf z => by
    subst z; rw [e] at h; exact nf h
  refine ⟨fun a vs q => ?_, fun a vs q => ?_⟩
  · rcases q with (q | ⟨ob, q⟩) | q
    · exact .inl (.inl (by rw [upd_ne (ne q id)]; exact q))
    · exact .inl (.inr ⟨ob, by rw [upd_ne (ne q id)]; exact q⟩)
    · exact .inr q
  · rcases q with ⟨ob, q⟩ | q
    · exact .inl ⟨ob, by rw [upd_ne (ne q id)]; exact q⟩
    · exact .inr q
theorem Tk.new {K : PySem.W.Frag} {H : Hp} {p : Addr} {o : HO} (h : H p = none) : Tk K H (L2.upd H p o) := Tk.upd (by rw [h]; trivial)
theorem Tk.lst {K : PySem.W.Frag} {H : Hp} {p : Addr} {o : HO} {vs : List V} (h : H p = some (.lst vs)) : Tk K H (L2.upd H p o) := Tk.upd (by rw [h]; trivial)
theorem Tk.ins {K : PySem.W.Frag} {H : Hp} {p C dx : Addr} {o : HO} {fs : List (Str × V)} (h : H p = some (.ins C dx fs)) : Tk K H (L2.upd H p o) := Tk.upd (by rw [h]; trivial)

section
variable {K : PySem.W.Frag} {H H' : Hp}
theorem RDs.of_all (k : ∀ d v, RD K H d v → RD K H' d v) : ∀ {ds : List D} {vs : List V}, RDs K H ds vs → RDs K H' ds vs
  | [], _, h => by cases h; exact .nil
  | d :: ds, _, h => by
    cases h with
    | cons r t => exact .cons (k _ _ r) (RDs.of_all k t)
mutual
theorem RD.keep (k : Tk K H H') : ∀ {d : D} {v : V}, RD K H d v → RD K H' d v
  | .non, _, h => by cases h; exact .non
  | .bl b, _, h => by cases h; exact .bl b
  | .int i, _, h => by cases h; exact .int i
  | .str x, _, h => by cases h; exact .str x
  | .ref a, _, h => by cases h; exact .ref a
  | .ty n, _, h => by cases h; exact .ty n
  | .tup ds, _, h => by
    cases h with
    | tup s r => exact .tup (k.t _ _ s) (RDs.keep k r)
  | .rol ds, _, h => by
    cases h with
    | rol s r => exact .rol (k.f _ _ s) (RDs.keep k r)
theorem RDs.keep (k : Tk K H H') : ∀ {ds : List D} {vs : List V}, RDs K H ds vs → RDs K H' ds vs
  | [], _, h => by cases h; exact .nil
  | d :: ds, _, h => by
    cases h with
    | cons r t => exact .cons (RD.keep k r) (RDs.keep k t)
end
theorem RDs.len {ds : List D} {vs : List V} (h : RDs K H ds vs) : ds.length = vs.length := by
  induction ds generalizing vs with
  | nil => cases h; rfl
  | cons d ds ih =>
    cases h with
    | cons r t => simp [ih t]
theorem RDs.app {ds es : List D} {vs us : List V} (h : RDs K H ds vs) (h' : RDs K H es us) : RDs K H (ds ++ es) (vs ++ us) := by
  induction ds generalizing vs with
  | nil => cases h; exact h'
  | cons d ds ih =>
    cases h with
    | cons r t => exact .cons r (ih t)
theorem RDs.take (n : Nat) {ds : List D} {vs : List V} (h : RDs K H ds vs) : RDs K H (ds.take n) (vs.take n) := by
  induction ds generalizing vs n with
  | nil => cases h; simp; exact .nil
  | cons d ds ih =>
    cases h with
    | cons r t =>
      cases n with
      | zero => exact .nil
      | succ n => exact .cons r (ih n t)
theorem RDs.drop (n : Nat) {ds : List D} {vs : List V} (h : RDs K H ds vs) : RDs K H (ds.drop n) (vs.drop n) := by
  induction ds generalizing vs n with
  | nil => cases h; simp; exact .nil
  | cons d ds ih =>
    cases h with
    | cons r t =>
      cases n with
      | zero => exact .cons r t
      | succ n => exact ih n t
theorem RDs.get {ds : List D} {vs : List V} (h : RDs K H ds vs) {i : Nat} {d : D} (e : ds[i]? = some d) : ∃ v, vs[i]? = some v ∧ RD K H d v := by
  induction ds generalizing vs i with
  | nil => simp at e
  | cons x ds ih =>
    cases h with
    | cons r t =>
      cases i with
      | zero => simp at e; subst e; exact ⟨_, rfl, r⟩
      | succ i => simp at e; obtain ⟨v, e1, e2⟩ := ih t e; exact ⟨v, by simpa using e1, e2⟩
theorem RDs.getV {ds : List D} {vs : List V} (h : RDs K H ds vs) {i : Nat} {v : V} (e : vs[i]? = some v) : ∃ d, ds[i]? = some d ∧ RD K H d v := by
  induction ds generalizing vs i with
  | nil => cases h; simp at e
  | cons x ds ih =>
    cases h with
    | cons r t =>
      cases i with
      | zero => simp at e; subst e; exact ⟨_, rfl, r⟩
      | succ i => simp at e; obtain ⟨d, e1, e2⟩ := ih t e; exact ⟨d, by simpa using e1, e2⟩
theorem RDs.set {ds : List D} {vs : List V} (h : RDs K H ds vs) (i : Nat) {d : D} {v : V} (r : RD K H d v) : RDs K H (ds.set i d) (vs.set i v) := by
  induction ds generalizing vs i with
  | nil => cases h; exact .nil
  | cons x ds ih =>
    cases h with
    | cons q t =>
      cases i with
      | zero => exact .cons r t
      | succ i => exact .cons q (ih t i)
theorem RDs.one {d : D} {v : V} (r : RD K H d v) : RDs K H [d] [v] := .cons r .nil
theorem RDs.rev {ds : List D} {vs : List V} (h : RDs K H ds vs) : RDs K H ds.reverse vs.reverse := by
  induction ds generalizing vs with
  | nil => cases h; exact .nil
  | cons d ds ih =>
    cases h with
    | cons r t => simp only [List.reverse_cons]; exact (ih t).app (.one r)
theorem RDs.erase {ds : List D} {vs : List V} (h : RDs K H ds vs) (i : Nat) : RDs K H (ds.eraseIdx i) (vs.eraseIdx i) := by
  induction ds generalizing vs i with
  | nil => cases h; exact .nil
  | cons x ds ih =>
    cases h with
    | cons q t =>
      cases i with
      | zero => exact t
      | succ i => exact .cons q (ih t i)
theorem RDs.last {ds : List D} {vs : List V} (h : RDs K H ds vs) : RDs K H ds.dropLast vs.dropLast := by
  rw [List.dropLast_eq_take, List.dropLast_eq_take, h.len]; exact h.take _
theorem RDs.ints : ∀ (ns : List Int), RDs K H (ns.map D.int) (ns.map V.int)
  | [] => .nil
  | n :: ns => .cons (.int n) (RDs.ints ns)
end

/-! ### the frame's values, the heap -/
abbrev St := List (Option D)
def RS (K : PySem.W.Frag) (H : Hp) (σ : St) (σv : L2.St) : Prop := σ.length = σv.length ∧ ∀ (i : Nat) (d : D), σ[i]? = some (some d) → ∃ v, σv[i]? = some (some v) ∧ RD K H d v
theorem RS.keep {K : PySem.W.Frag} {H H' : Hp} {σ : St} {σv : L2.St} (h : RS K H σ σv) (k : Tk K H H') : RS K H' σ σv := ⟨h.1, fun i d e => by
  obtain ⟨v, e1, e2⟩ := h.2 i d e
  exact ⟨v, e1, e2.keep k⟩⟩
theorem RS.set {K : PySem.W.Frag} {H : Hp} {σ : St} {σv : L2.St} (h : RS K H σ σv) (i : Nat) {d : D} {v : V} (r : RD K H d v) : RS K H (σ.set i (some d)) (σv.set i (some v)) := by
  refine ⟨by simpa using h.1, fun j x e => ?_⟩
  by_cases hj : i = j
  · subst hj
    by_cases hl : i < σ.length
    · rw [List.getElem?_set_self hl] at e
      cases e
      exact ⟨v, by rw [List.getElem?_set_self (by rw [← h.1]; exact hl)], r⟩
    · rw [List.getElem?_eq_none (by simpa using hl)] at e; cases e
  · rw [List.getElem?_set_ne hj] at e
    rw [List.getElem?_set_ne hj]
    exact h.2 j x e
theorem RS.unset {K : PySem.W.Frag} {H : Hp} {σ : St} {σv : L2.St} (h : RS K H σ σv) (i : Nat) : RS K H (σ.set i none) (σv.set i none) := by
  refine ⟨by simpa using h.1, fun j x e => ?_⟩
  by_cases hj : i = j
  · subst hj
    by_cases hl : i < σ.length
    · rw [List.getElem?_set_self hl] at e; cases e
    · rw [List.getElem?_eq_none (by simpa using hl)] at e; cases e
  · rw [List.getElem?_set_ne hj] at e
    rw [List.getElem?_set_ne hj]
    exact h.2 j x e
def wipeD (σ : St) : List Nat → St
  | [] => σ
  | v :: vs => (wipeD σ vs).set v none
theorem RS.wipe {K : PySem.W.Frag} {H : Hp} {σ : St} {σv : L2.St} (h : RS K H σ σv) : ∀ vs : List Nat, RS K H (wipeD σ vs) (wipe σv vs)
  | [] => h
  | v :: vs => (RS.wipe h vs).unset v

/-- the program's tables: the classes' names; which names are an instance's fields; the callee of a name (a method, a class) with so many positional values and such keywords: its number, the defaults that fill up; the exceptions' classes; the module's constants -/
class Tab where
  cn : Nat → Str
  att : Nat → Str → Bool
  call : Str → Nat → List Str → Option (Nat × List D)
  meth : Nat → Str → Nat → List Str → Option (Nat × List D)
  make : Str → Nat → List Str → Option (Nat × Nat × List D)
  exc : Str → Option Nat
  exi : Str → Option (Nat × List Str)
  exm : Nat → Str → Option Bool
  exq : Str → Bool
  glob : Str → Option D
variable [T : Tab]
/-- fields -/
def RF (K : PySem.W.Frag) (H : Hp) (fs : List (Str × D)) (gs : List (Str × V)) : Prop := fs.map (·.1) = gs.map (·.1) ∧ RDs K H (fs.map (·.2)) (gs.map (·.2))
def RO (K : PySem.W.Frag) (H : Hp) (a : Addr) : O → Prop
  | .lst ds => ∃ vs, H a = some (.lst vs) ∧ RDs K H ds vs
  | .ins C fs => ∃ dx gs, H a = some (.ins (He.ga K (T.cn C)) dx gs) ∧ RF K H fs gs
def RH (K : PySem.W.Frag) (G : Hd) (H : Hp) : Prop := ∀ a o, G a = some o → RO K H a o
section
variable {K : PySem.W.Frag} {H H' : Hp} {G : Hd}
theorem RF.keep {fs : List (Str × D)} {gs : List (Str × V)} (h : RF K H fs gs) (k : Tk K H H') : RF K H' fs gs := ⟨h.1, h.2.keep k⟩
theorem RO.keep {a : Addr} {o : O} (h : RO K H a o) (k : Tk K H H') (e : H' a = H a) : RO K H' a o := by
  cases o with
  | lst ds => obtain ⟨vs, e1, r⟩ := h; exact ⟨vs, by rw [e]; exact e1, r.keep k⟩
  | ins C fs => obtain ⟨dx, gs, e1, r⟩ := h; exact ⟨dx, gs, by rw [e]; exact e1, r.keep k⟩
theorem RO.some {a : Addr} {o : O} (h : RO K H a o) : H a ≠ none := by
  cases o with
  | lst ds => obtain ⟨vs, e1, r⟩ := h; rw [e1]; simp
  | ins C fs => obtain ⟨dx, gs, e1, r⟩ := h; rw [e1]; simp
theorem RH.none (h : RH K G H) {p : Addr} (e : H p = none) : G p = none := by
  cases q : G p with
  | none => rfl
  | some o => exact absurd e (h p o q).some
/-- one place changes, on both sides -/
theorem RH.upd (h : RH K G H) {p : Addr} {o : O} {u : HO} (hf : Fluid (H p)) (r : RO K (upd H p u) p o) : RH K (up G p o) (upd H p u) := fun a q e => by
  by_cases ha : a = p
  · subst ha; rw [up_same] at e; cases e; exact r
  · rw [up_ne ha] at e
    exact (h a q e).keep (Tk.upd hf) (upd_ne ha)
/-- a thing that is not told here -/
theorem RH.skip (h : RH K G H) {p : Addr} {u : HO} (hf : H p = .none) : RH K G (L2.upd H p u) := fun a q e => by
  have ha : a ≠ p := fun z => by subst z; exact (h a q e).some hf
  exact (h a q e).keep (Tk.new hf) (upd_ne ha)
theorem RH.new_lst (h : RH K G H) {p : Addr} {ds : List D} {vs : List V} (e : H p = .none) (r : RDs K H ds vs) : RH K (up G p (.lst ds)) (L2.upd H p (.lst vs)) :=
  h.upd (by rw [e]; trivial) ⟨vs, upd_same, r.keep (Tk.new e)⟩
theorem RH.set_lst (h : RH K G H) {p : Addr} {ds : List D} {vs us : List V} (e : H p = .some (.lst us)) (r : RDs K H ds vs) : RH K (up G p (.lst ds)) (L2.upd H p (.lst vs)) :=
  h.upd (by rw [e]; trivial) ⟨vs, upd_same, r.keep (Tk.lst e)⟩
theorem RH.set_ins (h : RH K G H) {p dx C : Addr} {c : Nat} {fs : List (Str × D)} {gs gs0 : List (Str × V)} (e : H p = .some (.ins C dx gs0)) (hC : C = He.ga K (T.cn c)) (r : RF K H fs gs) : RH K (up G p (.ins c fs)) (L2.upd H p (.ins C dx gs)) :=
  h.upd (by rw [e]; trivial) ⟨dx, gs, by rw [hC]; exact upd_same, r.keep (Tk.ins e)⟩
end
end Y

/-! Y2: readings over D (TED ..), their lift to the layer's readings (LE ..), operators. -/
namespace Y
open PySem PySem.Spec PyProof.Rows L2
variable [T : Tab]

abbrev KD := D → Hd → Prop
/-- an exception: its class's number, its fields, the heap -/
abbrev XD := Nat → List (Str × D) → Hd → Prop
abbrev TED := St → Hd → KD → XD → Prop
abbrev TTD := St → Hd → (Bool → Hd → Prop) → XD → Prop
abbrev TAD := St → Hd → (List D → Hd → Prop) → XD → Prop
def RX (K : PySem.W.Frag) (H : Hp) (c : Nat) (fs : List (Str × D)) (cls : Value) (dd : Option Addr) : Prop :=
  cls = .ref (He.ga K (T.cn c)) ∧ ((fs = [] ∧ dd = none) ∨ fs ≠ [] ∧ ∃ d gs, dd = some d ∧ H d = some (.xd gs) ∧ RF K H fs gs)
def PV (K : PySem.W.Frag) (H : Hp) (Q : KD) (Qv : VK) : Prop := ∀ d v G' H', Tk K H H' → RD K H' d v → RH K G' H' → Q d G' → Qv v H'
def PB (K : PySem.W.Frag) (H : Hp) (Q : Bool → Hd → Prop) (Qv : Bool → Hp → Prop) : Prop := ∀ b G' H', Tk K H H' → RH K G' H' → Q b G' → Qv b H'
def PL (K : PySem.W.Frag) (H : Hp) (Q : List D → Hd → Prop) (Qv : List V → Hp → Prop) : Prop := ∀ ds vs G' H', Tk K H H' → RDs K H' ds vs → RH K G' H' → Q ds G' → Qv vs H'
def PX (K : PySem.W.Frag) (H : Hp) (σv : L2.St) (E : XD) (W : WX) : Prop := ∀ c fs cls dd G' H', Tk K H H' → RX K H' c fs cls dd → RH K G' H' → E c fs G' → W cls dd σv H'
def LE (K : PySem.W.Frag) (t : TED) (W : WX) : TE := fun σv H Qv => ∃ σ G Q E, RS K H σ σv ∧ RH K G H ∧ t σ G Q E ∧ PV K H Q Qv ∧ PX K H σv E W
def LT (K : PySem.W.Frag) (t : TTD) (W : WX) : TT := fun σv H Qv => ∃ σ G Q E, RS K H σ σv ∧ RH K G H ∧ t σ G Q E ∧ PB K H Q Qv ∧ PX K H σv E W
def LA (K : PySem.W.Frag) (t : TAD) (W : WX) : TA := fun σv H Qv => ∃ σ G Q E, RS K H σ σv ∧ RH K G H ∧ t σ G Q E ∧ PL K H Q Qv ∧ PX K H σv E W
section
variable {K : PySem.W.Frag} {H H' : Hp}
theorem PV.keep {Q : KD} {Qv : VK} (h : PV K H Q Qv) (k : Tk K H H') : PV K H' Q Qv := fun d v G1 H1 k1 => h d v G1 H1 (k.trans k1)
theorem PB.keep {Q : Bool → Hd → Prop} {Qv : Bool → Hp → Prop} (h : PB K H Q Qv) (k : Tk K H H') : PB K H' Q Qv := fun d G1 H1 k1 => h d G1 H1 (k.trans k1)
theorem PL.keep {Q : List D → Hd → Prop} {Qv : List V → Hp → Prop} (h : PL K H Q Qv) (k : Tk K H H') : PL K H' Q Qv := fun d v G1 H1 k1 => h d v G1 H1 (k.trans k1)
theorem PX.keep {σv : L2.St} {E : XD} {W : WX} (h : PX K H σv E W) (k : Tk K H H') : PX K H' σv E W := fun c fs cls dd G1 H1 k1 => h c fs cls dd G1 H1 (k.trans k1)
theorem PV.here {Q : KD} {Qv : VK} (h : PV K H Q Qv) {d : D} {v : V} {G : Hd} (r : RD K H d v) (rh : RH K G H) (q : Q d G) : Qv v H := h d v G H (Tk.refl H) r rh q
end
theorem PE.imp {X : Cx} {e : Expr} {t t' : TE} (h : PE X e t) (k : ∀ σ H Q, t' σ H Q → t σ H Q) : PE X e t' := ⟨fun pins s σ H Q I q => h.run pins s σ H Q I (k σ H Q q)⟩
theorem PT.imp {X : Cx} {e : Expr} {t t' : TT} (h : PT X e t) (k : ∀ σ H Q, t' σ H Q → t σ H Q) : PT X e t' := ⟨fun pins s σ H Q I q => h.run pins s σ H Q I (k σ H Q q)⟩
theorem PW.imp {X : Cx} {e : Expr} {t t' : TT} (h : PW X e t) (k : ∀ σ H Q, t' σ H Q → t σ H Q) : PW X e t' := ⟨fun wh pins s σ H Q I q => h.run wh pins s σ H Q I (k σ H Q q)⟩
theorem PA.imp {X : Cx} {e : List Expr} {t t' : TA} (h : PA X e t) (k : ∀ σ H Q, t' σ H Q → t σ H Q) : PA X e t' := ⟨fun pos pins s σ H Q I q => h.run pos pins s σ H Q I (k σ H Q q)⟩
theorem PS.imp {X : Cx} {e : Stmt} {t t' : TS} (h : PS X e t) (k : ∀ D σ H, t' D σ H → t D σ H) : PS X e t' := ⟨fun pins s σ H D I q => h.run pins s σ H D I (k D σ H q)⟩
theorem PSs.imp {X : Cx} {e : List Stmt} {t t' : TS} (h : PSs X e t) (k : ∀ D σ H, t' D σ H → t D σ H) : PSs X e t' := ⟨fun pins s σ H D I q => h.run pins s σ H D I (k D σ H q)⟩

/-! ### operators: by values -/
abbrev R2D := D → D → Hd → KD → Prop
def OpD (K : PySem.W.Frag) (r : R2) (q : R2D) : Prop := ∀ (H : Hp) (G : Hd) (x y : D) (v u : V) (Q : KD) (Qv : VK), RD K H x v → RD K H y u → RH K G H → q x y G Q → PV K H Q Qv → r v u H Qv
def tBin (q : R2D) (ta tb : TED) : TED := fun σ G Q E => ta σ G (fun x G1 => tb σ G1 (fun y G2 => q x y G2 Q) E) E
section
variable {X : Cx} {W : WX} {a b c : Expr} {ta tb tc : TED} {pos : Pos} {r r' : R2} {q q' : R2D}
theorem bin_imp {K : PySem.W.Frag} (ho : OpD K r q) : ∀ σ H Q, LE K (tBin q ta tb) W σ H Q → tOp r (LE K ta W) (LE K tb W) σ H Q := by
  intro σv H Qv h
  obtain ⟨σ, G, Q, E, rs, rh, h, pv, px⟩ := h
  refine ⟨σ, G, _, E, rs, rh, h, fun x v G1 H1 k1 rx rh1 q1 => ?_, px⟩
  refine ⟨σ, G1, _, E, rs.keep k1, rh1, q1, fun y u G2 H2 k2 ry rh2 q2 => ?_, px.keep k1⟩
  exact ho H2 G2 x y v u Q Qv (rx.keep k2) ry rh2 q2 (pv.keep (k1.trans k2))
theorem je_bin {op : Operator} (hr : OpR X (binaryOp op) r) (ho : OpD X.K r q) (ha : PE X a (LE X.K ta W)) (hb : PE X b (LE X.K tb W)) : PE X (.BinOp a op b pos) (LE X.K (tBin q ta tb) W) :=
  PE.imp (pe_op hr ha hb) (bin_imp ho)
theorem je_cmp {op : CmpOp} (hr : OpR X (compareOp op) r) (ho : OpD X.K r q) (ha : PE X a (LE X.K ta W)) (hb : PE X b (LE X.K tb W)) (hm : behindInMarks op b = false) : PE X (.Compare a [op] [b] pos) (LE X.K (tBin q ta tb) W) :=
  PE.imp (pe_cmpR hr ha hb hm) (bin_imp ho)
end
theorem OpD.or {K : PySem.W.Frag} {r r' : R2} {q : R2D} (h : ∀ (H : Hp) (G : Hd) (x y : D) (v u : V) (Q : KD) (Qv : VK), RD K H x v → RD K H y u → RH K G H → q x y G Q → PV K H Q Qv → r v u H Qv ∨ r' v u H Qv) : OpD K (fun x y H Q => r x y H Q ∨ r' x y H Q) q := h

/-! ### arithmetic -/
def b2z (b : Bool) : Int := if b then 1 else 0
def oAdd : R2D := fun x y G Q => match x, y with
  | .int i, .int j => Q (.int (i + j)) G
  | .str a, .str b => a.length + b.length ≤ sizeLine ∧ Q (.str (a ++ b)) G
  | .tup a, .tup b => a.length + b.length ≤ sizeLine ∧ Q (.tup (a ++ b)) G
  | .ref l, .ref m => ∃ xs ys, G l = some (.lst xs) ∧ G m = some (.lst ys) ∧ xs.length + ys.length ≤ sizeLine ∧ ∀ p, G p = none → Q (.ref p) (up G p (.lst (xs ++ ys)))
  | _, _ => False
def vAdd (K : PySem.W.Frag) : R2 := fun x y H Q => (rI0 fun i j => .int (i + j)) x y H Q ∨ ((fun x y H Q => ∃ i j, x = .str i ∧ y = .str j ∧ i.length + j.length ≤ sizeLine ∧ Q (.str (i ++ j)) H) : R2) x y H Q ∨ rCatA K x y H Q ∨ rCat x y H Q
theorem op_vAdd {X : Cx} : OpR X (binaryOp .Add) (vAdd X.K) := op_add.or (op_add_str.or (op_catA.or op_cat))
theorem oAdd_ok {K : PySem.W.Frag} : OpD K (vAdd K) oAdd := by
  intro H G x y v u Q Qv rx ry rh h pv
  cases x with
  | int i =>
    cases y with
    | int j => cases rx; cases ry; exact .inl ⟨i, j, rfl, rfl, pv.here (.int _) rh h⟩
    | _ => exact h.elim
  | str i =>
    cases y with
    | str j => cases rx; cases ry; exact .inr (.inl ⟨i, j, rfl, rfl, h.1, pv.here (.str _) rh h.2⟩)
    | _ => exact h.elim
  | tup i =>
    cases y with
    | tup j =>
      cases rx with
      | tup s1 r1 =>
        cases ry with
        | tup s2 r2 =>
          refine .inr (.inr (.inl ⟨_, _, _, _, rfl, rfl, s1, s2, by rw [← r1.len, ← r2.len]; exact h.1, ?_⟩))
          refine ⟨fun e => ?_, fun e => ?_, fun e1 e2 p hp => ?_⟩
          · refine pv.here (.tup s2 ?_) rh h.2
            cases i with
            | nil => exact r2
            | cons d ds => subst e; cases r1
          · intro e2
            refine pv.here (.tup s1 ?_) rh h.2
            cases j with
            | nil => rw [List.append_nil]; exact r1
            | cons d ds => subst e2; cases r2
          · refine pv _ _ G _ (Tk.new hp) (.tup (.inl (.inl upd_same)) ((r1.app r2).keep (Tk.new hp))) (rh.skip hp) h.2
    | _ => exact h.elim
  | ref l =>
    cases y with
    | ref m =>
      cases rx; cases ry
      obtain ⟨xs, ys, e1, e2, hz, k⟩ := h
      obtain ⟨vs, f1, r1⟩ := rh l _ e1
      obtain ⟨us, f2, r2⟩ := rh m _ e2
      refine .inr (.inr (.inr ⟨l, m, vs, us, rfl, rfl, f1, f2, by rw [← r1.len, ← r2.len]; exact hz, fun p hp => ?_⟩))
      exact pv _ _ _ _ (Tk.new hp) (.ref p) (rh.new_lst hp (r1.app r2)) (k p (rh.none hp))
    | _ => exact h.elim
  | _ => exact h.elim

def oSub : R2D := fun x y G Q => match x, y with
  | .int i, .int j => Q (.int (i - j)) G
  | _, _ => False
theorem oI_ok {K : PySem.W.Frag} {C : Int → Int → Prop} {g : Int → Int → Int} : OpD K (rI C fun i j => .int (g i j)) (fun x y G Q => match x, y with
  | .int i, .int j => C i j ∧ Q (.int (g i j)) G
  | _, _ => False) := by
  intro H G x y v u Q Qv rx ry rh h pv
  cases x with
  | int i =>
    cases y with
    | int j => cases rx; cases ry; exact ⟨i, j, rfl, rfl, h.1, pv.here (.int _) rh h.2⟩
    | _ => exact h.elim
  | _ => exact h.elim
theorem oI0_ok {K : PySem.W.Frag} {g : Int → Int → Int} : OpD K (rI0 fun i j => .int (g i j)) (fun x y G Q => match x, y with
  | .int i, .int j => Q (.int (g i j)) G
  | _, _ => False) := by
  intro H G x y v u Q Qv rx ry rh h pv
  cases x with
  | int i =>
    cases y with
    | int j => cases rx; cases ry; exact ⟨i, j, rfl, rfl, pv.here (.int _) rh h⟩
    | _ => exact h.elim
  | _ => exact h.elim
theorem oSub_ok {K : PySem.W.Frag} : OpD K (rI0 fun i j => .int (i - j)) oSub := oI0_ok
def oDiv : R2D := fun x y G Q => match x, y with
  | .int i, .int j => CDiv i j ∧ Q (.int (i / j)) G
  | _, _ => False
theorem oDiv_ok {K : PySem.W.Frag} : OpD K (rI CDiv fun i j => .int (i / j)) oDiv := oI_ok
def oMod : R2D := fun x y G Q => match x, y with
  | .int i, .int j => 0 < j ∧ Q (.int (i % j)) G
  | _, _ => False
theorem oMod_ok {K : PySem.W.Frag} : OpD K (rI (fun _ j => 0 < j) fun i j => .int (i % j)) oMod := oI_ok
def oPow : R2D := fun x y G Q => match x, y with
  | .int i, .int j => CPow i j ∧ Q (.int (i ^ j.toNat)) G
  | _, _ => False
theorem oPow_ok {K : PySem.W.Frag} : OpD K (rI CPow fun i j => .int (i ^ j.toNat)) oPow := oI_ok
def oAnd : R2D := fun x y G Q => match x, y with
  | .int i, .int j => Q (.int (Builtin.bitAnd i j)) G
  | _, _ => False
theorem oAnd_ok {K : PySem.W.Frag} : OpD K (rI0 fun i j => .int (Builtin.bitAnd i j)) oAnd := oI0_ok
/-- a text so many times -/
def vMulS : R2 := fun x y H Q => ∃ z i, x = .str z ∧ y = .int i ∧ MulOk z i ∧ Q (.str (Txt.mul z i)) H
theorem op_mulS {X : Cx} : OpR X (binaryOp .Mult) vMulS := by
  intro pins s σ H x y v u Q I rx ry h
  obtain ⟨z, i, rfl, rfl, hok, q⟩ := h
  obtain ⟨t, rfl⟩ := rx
  obtain ⟨t', rfl⟩ := ry
  refine SB.mul hok fun t2 k => ⟨.str _, H, I.tok k, ⟨_, rfl⟩, q⟩
def oMul : R2D := fun x y G Q => match x, y with
  | .int i, .int j => CMul i j ∧ Q (.int (i * j)) G
  | .str z, .int i => MulOk z i ∧ Q (.str (Txt.mul z i)) G
  | .ref l, .int k => ∃ xs, G l = some (.lst xs) ∧ -(2 ^ 63) ≤ k ∧ k < 2 ^ 63 ∧ xs.length * k.toNat ≤ sizeLine ∧ ∀ p, G p = none → Q (.ref p) (up G p (.lst (List.replicate k.toNat xs).flatten))
  | _, _ => False
def vMul : R2 := fun x y H Q => rI CMul (fun i j => .int (i * j)) x y H Q ∨ vMulS x y H Q ∨ rRep x y H Q
theorem op_vMul {X : Cx} : OpR X (binaryOp .Mult) vMul := op_mul.or (op_mulS.or op_rep)
theorem RDs.rep {K : PySem.W.Frag} {H : Hp} {ds : List D} {vs : List V} (h : RDs K H ds vs) : ∀ k : Nat, RDs K H (List.replicate k ds).flatten (List.replicate k vs).flatten
  | 0 => .nil
  | k + 1 => by
    rw [List.replicate_succ, List.replicate_succ, List.flatten_cons, List.flatten_cons]
    exact h.app (RDs.rep h k)
theorem oMul_ok {K : PySem.W.Frag} : OpD K vMul oMul := by
  intro H G x y v u Q Qv rx ry rh h pv
  cases x with
  | int i =>
    cases y with
    | int j => cases rx; cases ry; exact .inl ⟨i, j, rfl, rfl, h.1, pv.here (.int _) rh h.2⟩
    | _ => exact h.elim
  | str i =>
    cases y with
    | int j => cases rx; cases ry; exact .inr (.inl ⟨i, j, rfl, rfl, h.1, pv.here (.str _) rh h.2⟩)
    | _ => exact h.elim
  | ref l =>
    cases y with
    | int k =>
      cases rx; cases ry
      obtain ⟨xs, e1, h1, h2, hz, q⟩ := h
      obtain ⟨vs, f1, r1⟩ := rh l _ e1
      exact .inr (.inr ⟨l, k, vs, rfl, rfl, f1, h1, h2, by rw [← r1.len]; exact hz, fun p hp => pv _ _ _ _ (Tk.new hp) (.ref p) (rh.new_lst hp (r1.rep _)) (q p (rh.none hp))⟩)
    | _ => exact h.elim
  | _ => exact h.elim
/-! ### comparisons -/
mutual
/-- the datum that a value is, its lists read in the heap -/
inductive DP (G : Hd) : D → PyData → Prop
  | non : DP G .non .none
  | bl (b : Bool) : DP G (.bl b) (.bool b)
  | int (i : Int) : DP G (.int i) (.int i)
  | str (x : Str) : DP G (.str x) (.str x)
  | tup {ds : List D} {ps : List PyData} : DPs G ds ps → DP G (.tup ds) (.tuple ps)
  | rol {ds : List D} {ps : List PyData} : DPs G ds ps → DP G (.rol ds) (.list ps)
  | lst {a : Addr} {ds : List D} {ps : List PyData} : G a = some (.lst ds) → DPs G ds ps → DP G (.ref a) (.list ps)
inductive DPs (G : Hd) : List D → List PyData → Prop
  | nil : DPs G [] []
  | cons {d : D} {p : PyData} {ds : List D} {ps : List PyData} : DP G d p → DPs G ds ps → DPs G (d :: ds) (p :: ps)
end
section
variable {K : PySem.W.Frag} {H : Hp} {G : Hd}
mutual
theorem DP.dp (rh : RH K G H) : ∀ {p : PyData} {d : D} {v : V}, DP G d p → RD K H d v → Dp K H v p
  | .none, _, _, h, r => by cases h; cases r; exact .non
  | .bool b, _, _, h, r => by cases h; cases r; exact .bl b
  | .int i, _, _, h, r => by cases h; cases r; exact .int i
  | .str x, _, _, h, r => by cases h; cases r; exact .str x
  | .list ps, _, _, h, r => by
    cases h with
    | rol hs =>
      cases r with
      | rol f rs => exact .lst f.seq (DPs.dps rh hs rs)
    | lst e hs =>
      cases r
      obtain ⟨vs, f, rs⟩ := rh _ _ e
      exact .lst (SqL.of f) (DPs.dps rh hs rs)
  | .tuple ps, _, _, h, r => by
    cases h with
    | tup hs =>
      cases r with
      | tup s rs => exact .tup s (DPs.dps rh hs rs)
  | .dict _, _, _, h, _ => by cases h
theorem DPs.dps (rh : RH K G H) : ∀ {ps : List PyData} {ds : List D} {vs : List V}, DPs G ds ps → RDs K H ds vs → DpAll K H vs ps
  | [], _, _, h, r => by cases h; cases r; exact .nil
  | p :: ps, _, _, h, r => by
    cases h with
    | cons h1 h2 =>
      cases r with
      | cons r1 r2 => exact .cons (DP.dp rh h1 r1) (DPs.dps rh h2 r2)
end
end
/-- == of plain values -/
def eqs : D → D → Option Bool
  | .non, .non => some true
  | .non, .int _ => some false | .int _, .non => some false | .non, .bl _ => some false | .bl _, .non => some false | .non, .str _ => some false | .str _, .non => some false
  | .int i, .int j => some (decide (i = j))
  | .bl i, .bl j => some (decide (i = j))
  | .str i, .str j => some (decide (i = j))
  | .int _, .str _ => some false | .str _, .int _ => some false | .bl _, .str _ => some false | .str _, .bl _ => some false
  | _, _ => none
def oEq : R2D := fun x y G Q => match eqs x y with
  | some b => Q (.bl b) G
  | none => ∃ p q, DP G x p ∧ DP G y q ∧ SeqAt.shaped p = true ∧ SeqAt.shaped q = true ∧ Q (.bl (PyData.eqv p q)) G
def oNe : R2D := fun x y G Q => match eqs x y with
  | some b => Q (.bl (!b)) G
  | none => ∃ p q, DP G x p ∧ DP G y q ∧ SeqAt.shaped p = true ∧ SeqAt.shaped q = true ∧ Q (.bl (!PyData.eqv p q)) G
theorem eqs_ok {K : PySem.W.Frag} {H : Hp} {x y : D} {v u : V} {b : Bool} (rx : RD K H x v) (ry : RD K H y u) (e : eqs x y = some b) : scal v u = true ∧ decide (v = u) = b := by
  cases rx <;> cases ry <;> simp [eqs] at e <;> subst e <;> simp [scal]
def vEq (K : PySem.W.Frag) : R2 := fun x y H Q => rEq x y H Q ∨ rEqD K x y H Q
def vNe (K : PySem.W.Frag) : R2 := fun x y H Q => rNe x y H Q ∨ rNeD K x y H Q
theorem op_vEq {X : Cx} (hu : X.A.units + 64 < cLine) : OpR X (compareOp .Eq) (vEq X.K) := op_eq.or (op_eqD hu)
theorem op_vNe {X : Cx} (hu : X.A.units + 64 < cLine) : OpR X (compareOp .NotEq) (vNe X.K) := op_ne.or (op_neD hu)
theorem oEq_ok {K : PySem.W.Frag} : OpD K (vEq K) oEq := by
  intro H G x y v u Q Qv rx ry rh h pv
  unfold oEq at h
  cases e : eqs x y with
  | some b =>
    rw [e] at h
    obtain ⟨s1, s2⟩ := eqs_ok rx ry e
    exact .inl ⟨s1, by rw [s2]; exact pv.here (.bl _) rh h⟩
  | none =>
    rw [e] at h
    obtain ⟨p, q, h1, h2, s1, s2, k⟩ := h
    exact .inr ⟨p, q, h1.dp rh rx, h2.dp rh ry, s1, s2, pv.here (.bl _) rh k⟩
theorem oNe_ok {K : PySem.W.Frag} : OpD K (vNe K) oNe := by
  intro H G x y v u Q Qv rx ry rh h pv
  unfold oNe at h
  cases e : eqs x y with
  | some b =>
    rw [e] at h
    obtain ⟨s1, s2⟩ := eqs_ok rx ry e
    exact .inl ⟨s1, by rw [s2]; exact pv.here (.bl _) rh h⟩
  | none =>
    rw [e] at h
    obtain ⟨p, q, h1, h2, s1, s2, k⟩ := h
    exact .inr ⟨p, q, h1.dp rh rx, h2.dp rh ry, s1, s2, pv.here (.bl _) rh k⟩
def oCmp (g : Int → Int → Bool) : R2D := fun x y G Q => match x, y with
  | .int i, .int j => Q (.bl (g i j)) G
  | _, _ => False
theorem oCmp_ok {K : PySem.W.Frag} {g : Int → Int → Bool} : OpD K (rI0 fun i j => .bl (g i j)) (oCmp g) := by
  intro H G x y v u Q Qv rx ry rh h pv
  cases x with
  | int i =>
    cases y with
    | int j => cases rx; cases ry; exact ⟨i, j, rfl, rfl, pv.here (.bl _) rh h⟩
    | _ => exact h.elim
  | _ => exact h.elim
def isNon : D → Bool
  | .non => true
  | _ => false
/-- is, is not: None; True, False -/
def oIs (neg : Bool) : R2D := fun x y G Q => match y with
  | .non => Q (.bl (xor neg (isNon x))) G
  | .bl b => (match x with
    | .bl a => Q (.bl (xor neg (decide (a = b)))) G
    | _ => False)
  | _ => False
def vIs : R2 := fun x y H Q => (y = .non ∧ Q (.bl (decide (x = .non))) H) ∨ rIsB x y H Q
def vNot : R2 := fun x y H Q => (y = .non ∧ Q (.bl (!decide (x = .non))) H) ∨ rNotB x y H Q
theorem op_vIs {X : Cx} : OpR X (compareOp .Is) vIs := op_isN.or op_isBl
theorem op_vNot {X : Cx} : OpR X (compareOp .IsNot) vNot := op_notN.or op_notBl
theorem isnon_ok {K : PySem.W.Frag} {H : Hp} {x : D} {v : V} (rx : RD K H x v) : (isNon x) = decide (v = .non) := by
  cases rx <;> simp [isNon]
theorem oIs_ok {K : PySem.W.Frag} : OpD K vIs (oIs false) := by
  intro H G x y v u Q Qv rx ry rh h pv
  cases y with
  | non =>
    cases ry
    refine .inl ⟨rfl, ?_⟩
    rw [← isnon_ok rx]
    have h' : Q (.bl (xor false (isNon x))) G := h
    rw [Bool.false_xor] at h'
    exact pv.here (.bl _) rh h'
  | bl b =>
    cases ry
    cases x with
    | bl a =>
      cases rx
      refine .inr ⟨a, b, rfl, rfl, ?_⟩
      have h' : Q (.bl (xor false (decide (a = b)))) G := h
      rw [Bool.false_xor] at h'
      exact pv.here (.bl _) rh h'
    | _ => exact h.elim
  | _ => exact h.elim
theorem oNot_ok {K : PySem.W.Frag} : OpD K vNot (oIs true) := by
  intro H G x y v u Q Qv rx ry rh h pv
  cases y with
  | non =>
    cases ry
    refine .inl ⟨rfl, ?_⟩
    rw [← isnon_ok rx]
    have h' : Q (.bl (xor true (isNon x))) G := h
    rw [Bool.true_xor] at h'
    exact pv.here (.bl _) rh h'
  | bl b =>
    cases ry
    cases x with
    | bl a =>
      cases rx
      refine .inr ⟨a, b, rfl, rfl, ?_⟩
      have h' : Q (.bl (xor true (decide (a = b)))) G := h
      rw [Bool.true_xor] at h'
      exact pv.here (.bl _) rh h'
    | _ => exact h.elim
  | _ => exact h.elim
/-! ### in, not in -/
def flatD : D → Bool
  | .non => true | .bl _ => true | .int _ => true | .str _ => true | _ => false
def toV : D → V
  | .bl b => .bl b | .int i => .int i | .str x => .str x | _ => .non
theorem flat_ok {K : PySem.W.Frag} {H : Hp} {x : D} {v : V} (rx : RD K H x v) (f : flatD x = true) : v = toV x ∧ flatV v = true := by
  cases rx <;> first | exact ⟨rfl, rfl⟩ | cases f
theorem flats_ok {K : PySem.W.Frag} {H : Hp} : ∀ {xs : List D} {vs : List V}, RDs K H xs vs → xs.all flatD = true → vs = xs.map toV ∧ vs.all flatV = true
  | [], _, r, _ => by cases r; exact ⟨rfl, rfl⟩
  | x :: xs, _, r, f => by
    cases r with
    | cons r1 r2 =>
      rw [List.all_cons, Bool.and_eq_true] at f
      obtain ⟨e1, e2⟩ := flat_ok r1 f.1
      obtain ⟨e3, e4⟩ := flats_ok r2 f.2
      subst e1 e3
      exact ⟨rfl, by rw [List.all_cons, e2, e4]; rfl⟩
def inD (x : D) (xs : List D) : Bool := inV (toV x) (xs.map toV)
def inT (x y : Str) : Bool := !(Builtin.Str.occurrences y x 0 y.length 1).isEmpty
def oIn (neg : Bool) : R2D := fun x y G Q => match y with
  | .str j => (match x with
    | .str i => (∃ c, i = ⟨#[c]⟩ ∧ Q (.bl (xor neg (decide (c ∈ j.cps.toList)))) G) ∨ Q (.bl (xor neg (inT i j))) G
    | _ => False)
  | .tup ds => flatD x = true ∧ ds.all flatD = true ∧ Q (.bl (xor neg (inD x ds))) G
  | .rol ds => flatD x = true ∧ ds.all flatD = true ∧ Q (.bl (xor neg (inD x ds))) G
  | .ref a => ∃ ds, G a = some (.lst ds) ∧ ((flatD x = true ∧ ds.all flatD = true ∧ Q (.bl (xor neg (inD x ds))) G) ∨
      ∃ p ps, DP G x p ∧ DPs G ds ps ∧ SeqAt.shaped p = true ∧ SeqAt.shaped (.list ps) = true ∧ Q (.bl (xor neg (ps.any fun z => PyData.eqv z p))) G)
  | _ => False
def vIn (K : PySem.W.Frag) : R2 := fun x y H Q => (((∃ (c : Nat) (z : Str), x = .str ⟨#[c]⟩ ∧ y = .str z ∧ Q (.bl (decide (c ∈ z.cps.toList))) H) ∨ ∃ i j, x = .str i ∧ y = .str j ∧ Q (.bl (!(Builtin.Str.occurrences j i 0 j.length 1).isEmpty)) H) ∨ rIn K false x y H Q) ∨ rInD K x y H Q
def vNotIn (K : PySem.W.Frag) : R2 := fun x y H Q => (((∃ (c : Nat) (z : Str), x = .str ⟨#[c]⟩ ∧ y = .str z ∧ Q (.bl (!decide (c ∈ z.cps.toList))) H) ∨ ∃ i j, x = .str i ∧ y = .str j ∧ Q (.bl (!(!(Builtin.Str.occurrences j i 0 j.length 1).isEmpty))) H) ∨ rIn K true x y H Q) ∨ rNotInD K x y H Q
theorem op_vIn {X : Cx} (hu : X.A.units + 65 < cLine) : OpR X (compareOp .In) (vIn X.K) := ((op_in_sign.or op_in_str).or op_in_seq).or (op_inD hu)
theorem op_vNotIn {X : Cx} (hu : X.A.units + 65 < cLine) : OpR X (compareOp .NotIn) (vNotIn X.K) := ((op_notIn_sign.or op_notIn_str).or op_notIn_seq).or (op_notInD hu)
theorem oIn_ok {K : PySem.W.Frag} : OpD K (vIn K) (oIn false) := by
  intro H G x y v u Q Qv rx ry rh h pv
  cases y with
  | str j =>
    cases ry
    cases x with
    | str i =>
      cases rx
      rcases h with ⟨c, e, h⟩ | h
      · subst e; rw [Bool.false_xor] at h; exact .inl (.inl (.inl ⟨c, j, rfl, rfl, pv.here (.bl _) rh h⟩))
      · rw [Bool.false_xor] at h; exact .inl (.inl (.inr ⟨i, j, rfl, rfl, pv.here (.bl _) rh h⟩))
    | _ => exact h.elim
  | tup ds =>
    obtain ⟨f1, f2, h⟩ := h
    cases ry with
    | tup s r =>
      obtain ⟨e1, g1⟩ := flat_ok rx f1
      obtain ⟨e2, g2⟩ := flats_ok r f2
      rw [Bool.false_xor] at h
      refine .inl (.inr ⟨_, _, rfl, .inr s, g1, g2, ?_⟩)
      show Qv (.bl (inV v _)) H
      rw [e1, e2]
      exact pv.here (.bl _) rh h
  | rol ds =>
    obtain ⟨f1, f2, h⟩ := h
    cases ry with
    | rol s r =>
      obtain ⟨e1, g1⟩ := flat_ok rx f1
      obtain ⟨e2, g2⟩ := flats_ok r f2
      rw [Bool.false_xor] at h
      refine .inl (.inr ⟨_, _, rfl, .inl s.seq, g1, g2, ?_⟩)
      show Qv (.bl (inV v _)) H
      rw [e1, e2]
      exact pv.here (.bl _) rh h
  | ref a =>
    cases ry
    obtain ⟨ds, e, h⟩ := h
    obtain ⟨vs, f, r⟩ := rh a _ e
    rcases h with ⟨f1, f2, h⟩ | ⟨p, ps, h1, h2, s1, s2, h⟩
    · obtain ⟨e1, g1⟩ := flat_ok rx f1
      obtain ⟨e2, g2⟩ := flats_ok r f2
      rw [Bool.false_xor] at h
      refine .inl (.inr ⟨_, _, rfl, .inl (SqL.of f), g1, g2, ?_⟩)
      show Qv (.bl (inV v _)) H
      rw [e1, e2]
      exact pv.here (.bl _) rh h
    · rw [Bool.false_xor] at h
      exact .inr ⟨p, ps, h1.dp rh rx, .lst (SqL.of f) (h2.dps rh r), s1, s2, pv.here (.bl _) rh h⟩
  | _ => exact h.elim
theorem oNotIn_ok {K : PySem.W.Frag} : OpD K (vNotIn K) (oIn true) := by
  intro H G x y v u Q Qv rx ry rh h pv
  cases y with
  | str j =>
    cases ry
    cases x with
    | str i =>
      cases rx
      rcases h with ⟨c, e, h⟩ | h
      · subst e; rw [Bool.true_xor] at h; exact .inl (.inl (.inl ⟨c, j, rfl, rfl, pv.here (.bl _) rh h⟩))
      · rw [Bool.true_xor] at h; exact .inl (.inl (.inr ⟨i, j, rfl, rfl, pv.here (.bl _) rh h⟩))
    | _ => exact h.elim
  | tup ds =>
    obtain ⟨f1, f2, h⟩ := h
    cases ry with
    | tup s r =>
      obtain ⟨e1, g1⟩ := flat_ok rx f1
      obtain ⟨e2, g2⟩ := flats_ok r f2
      rw [Bool.true_xor] at h
      refine .inl (.inr ⟨_, _, rfl, .inr s, g1, g2, ?_⟩)
      show Qv (.bl (!inV v _)) H
      rw [e1, e2]
      exact pv.here (.bl _) rh h
  | rol ds =>
    obtain ⟨f1, f2, h⟩ := h
    cases ry with
    | rol s r =>
      obtain ⟨e1, g1⟩ := flat_ok rx f1
      obtain ⟨e2, g2⟩ := flats_ok r f2
      rw [Bool.true_xor] at h
      refine .inl (.inr ⟨_, _, rfl, .inl s.seq, g1, g2, ?_⟩)
      show Qv (.bl (!inV v _)) H
      rw [e1, e2]
      exact pv.here (.bl _) rh h
  | ref a =>
    cases ry
    obtain ⟨ds, e, h⟩ := h
    obtain ⟨vs, f, r⟩ := rh a _ e
    rcases h with ⟨f1, f2, h⟩ | ⟨p, ps, h1, h2, s1, s2, h⟩
    · obtain ⟨e1, g1⟩ := flat_ok rx f1
      obtain ⟨e2, g2⟩ := flats_ok r f2
      rw [Bool.true_xor] at h
      refine .inl (.inr ⟨_, _, rfl, .inl (SqL.of f), g1, g2, ?_⟩)
      show Qv (.bl (!inV v _)) H
      rw [e1, e2]
      exact pv.here (.bl _) rh h
    · rw [Bool.true_xor] at h
      exact .inr ⟨p, ps, h1.dp rh rx, .lst (SqL.of f) (h2.dps rh r), s1, s2, pv.here (.bl _) rh h⟩
  | _ => exact h.elim
end Y

/-! Y3: expressions over D: items, slices, displays, tests, fields, built-ins. -/
namespace Y
open PySem PySem.Spec PyProof.Rows L2
variable [T : Tab]

/-- one of two, by a truth value -/
def pick : Bool → Prop → Prop → Prop
  | true, a, _ => a
  | false, _, b => b
/-! ### items -/
def oIx : R2D := fun x y G Q => match x, y with
  | .tup ds, .int i => ∃ d, atI ds i = some d ∧ Q d G
  | .rol ds, .int i => ∃ d, atI ds i = some d ∧ Q d G
  | .ref a, .int i => ∃ ds d, G a = some (.lst ds) ∧ atI ds i = some d ∧ Q d G
  | .str z, .int i => z.length ≤ sizeLine ∧ ∃ c, atI z.cps.toList i = some c ∧ Q (.str ⟨#[c]⟩) G
  | _, _ => False
theorem RDs.atI {K : PySem.W.Frag} {H : Hp} {ds : List D} {vs : List V} (r : RDs K H ds vs) {i : Int} {d : D} (h : atI ds i = some d) : ∃ v, L2.atI vs i = some v ∧ RD K H d v := by
  unfold L2.atI at h ⊢
  rw [← r.len]
  cases e : ixN ds.length i with
  | none => rw [e] at h; cases h
  | some j => rw [e] at h; exact r.get h
theorem oIx_ok {K : PySem.W.Frag} : OpD K (rIx K) oIx := by
  intro H G x y v u Q Qv rx ry rh h pv
  cases y with
  | int i =>
    cases ry
    cases x with
    | tup ds =>
      obtain ⟨d, e, h⟩ := h
      cases rx with
      | tup s r =>
        obtain ⟨w, e2, r2⟩ := r.atI e
        exact .inr (.inl ⟨_, _, i, w, rfl, rfl, s, e2, pv.here r2 rh h⟩)
    | rol ds =>
      obtain ⟨d, e, h⟩ := h
      cases rx with
      | rol s r =>
        obtain ⟨w, e2, r2⟩ := r.atI e
        exact .inl ⟨_, _, i, w, rfl, rfl, s.seq, e2, pv.here r2 rh h⟩
    | ref a =>
      cases rx
      obtain ⟨ds, d, e1, e, h⟩ := h
      obtain ⟨vs, f, r⟩ := rh a _ e1
      obtain ⟨w, e2, r2⟩ := r.atI e
      exact .inl ⟨a, _, i, w, rfl, rfl, SqL.of f, e2, pv.here r2 rh h⟩
    | str z =>
      cases rx
      obtain ⟨hz, c, e, h⟩ := h
      exact .inr (.inr ⟨z, i, c, rfl, rfl, hz, e, pv.here (.str _) rh h⟩)
    | _ => exact h.elim
  | _ => cases x <;> exact h.elim
section
variable {X : Cx} {W : WX} {a b c : Expr} {ta tb tc : TED} {pos : Pos}
theorem je_ix (ha : PE X a (LE X.K ta W)) (hb : PE X b (LE X.K tb W)) (hs : PlainIx b) : PE X (.Subscript a b pos) (LE X.K (tBin oIx ta tb) W) :=
  PE.imp (pe_ix ix_seq ha hb hs) (bin_imp oIx_ok)
end
/-! ### slices -/
abbrev TOD := St → Hd → (Option Int → Hd → Prop) → XD → Prop
def PI_ (K : PySem.W.Frag) (H : Hp) (Q : Option Int → Hd → Prop) (Qv : Option Int → Hp → Prop) : Prop := ∀ b G' H', Tk K H H' → RH K G' H' → Q b G' → Qv b H'
def LO (K : PySem.W.Frag) (t : TOD) (W : WX) : TO := fun σv H Qv => ∃ σ G Q E, RS K H σ σv ∧ RH K G H ∧ t σ G Q E ∧ PI_ K H Q Qv ∧ PX K H σv E W
def tNoD : TOD := fun _ G Q _ => Q none G
def tPartD (t : TED) : TOD := fun σ G Q E => t σ G (fun x G1 => match x with
  | .int i => Q (some i) G1
  | _ => False) E
def cutD (ds : List D) (lo hi : Option Int) : List D := (ds.drop (HT.sIx ds.length 0 lo)).take (HT.sIx ds.length ds.length hi - HT.sIx ds.length 0 lo)
def oSl (x : D) (lo hi : Option Int) (G : Hd) (Q : KD) : Prop := match x with
  | .str z => z.length ≤ sizeLine ∧ Q (.str (cutS z lo hi)) G
  | .tup ds => Q (.tup (cutD ds lo hi)) G
  | .ref a => ∃ ds, G a = some (.lst ds) ∧ ∀ p, G p = none → Q (.ref p) (up G p (.lst (cutD ds lo hi)))
  | _ => False
def tSlD (te : TED) (tl th : TOD) : TED := fun σ G Q E => te σ G (fun x G1 => tl σ G1 (fun lo G2 => th σ G2 (fun hi G3 => oSl x lo hi G3 Q) E) E) E
theorem RDs.cut {K : PySem.W.Frag} {H : Hp} {ds : List D} {vs : List V} (r : RDs K H ds vs) (lo hi : Option Int) : RDs K H (cutD ds lo hi) (cutV vs lo hi) := by
  unfold cutD cutV
  rw [r.len]
  exact (r.drop _).take _
theorem cutD_whole (ds : List D) (lo hi : Option Int) (h : HT.sIx ds.length 0 lo = 0 ∧ HT.sIx ds.length ds.length hi = ds.length) : cutD ds lo hi = ds := by
  unfold cutD
  rw [h.1, h.2]
  simp
def vSl (K : PySem.W.Frag) : V → Option Int → Option Int → Hp → VK → Prop := fun x lo hi H Q => rSlS x lo hi H Q ∨ (rSlA K x lo hi H Q ∨ rSlL K x lo hi H Q)
theorem sl_v {X : Cx} : SlR X (vSl X.K) := sl_str.or (sl_tupA.or sl_list)
theorem oSl_ok {K : PySem.W.Frag} {H : Hp} {G : Hd} {x : D} {v : V} {lo hi : Option Int} {Q : KD} {Qv : VK} (rx : RD K H x v) (rh : RH K G H) (h : oSl x lo hi G Q) (pv : PV K H Q Qv) : vSl K v lo hi H Qv := by
  cases x with
  | str z => cases rx; exact .inl ⟨z, rfl, h.1, pv.here (.str _) rh h.2⟩
  | tup ds =>
    cases rx with
    | tup s r =>
      refine .inr (.inl ⟨_, _, rfl, s, fun e => ?_, fun _ p hp => ?_⟩)
      · rw [← r.len] at e
        have h' : Q (.tup (cutD ds lo hi)) G := h
        rw [cutD_whole ds lo hi e] at h'
        exact pv.here (.tup s r) rh h'
      · exact pv _ _ G _ (Tk.new hp) (.tup (.inl (.inl upd_same)) ((r.cut lo hi).keep (Tk.new hp))) (rh.skip hp) h
  | ref a =>
    cases rx
    obtain ⟨ds, e, h⟩ := h
    obtain ⟨vs, f, r⟩ := rh a _ e
    exact .inr (.inr ⟨a, vs, rfl, SqL.of f, fun p hp => pv _ _ _ _ (Tk.new hp) (.ref p) (rh.new_lst hp (r.cut lo hi)) (h p (rh.none hp))⟩)
  | _ => exact h.elim
section
variable {X : Cx} {W : WX} {e : Expr} {te : TED} {lo hi : Option Expr} {tl th : TOD} {pos p2 : Pos}
theorem PO.imp {X : Cx} {e : Option Expr} {t t' : TO} (h : PO X e t) (k : ∀ σ H Q, t' σ H Q → t σ H Q) : PO X e t' := ⟨fun pins s σ H Q I q => h.run pins s σ H Q I (k σ H Q q)⟩
theorem jo_none : PO X none (LO X.K tNoD W) := PO.imp po_none fun σv H Qv ⟨σ, G, Q, E, rs, rh, h, pv, px⟩ => pv none G H (Tk.refl H) rh h
theorem jo_some {a : Expr} {ta : TED} (ha : PE X a (LE X.K ta W)) : PO X (some a) (LO X.K (tPartD ta) W) := PO.imp (po_some ha) fun σv H Qv ⟨σ, G, Q, E, rs, rh, h, pv, px⟩ => by
  refine ⟨σ, G, _, E, rs, rh, h, fun x v G1 H1 k1 rx rh1 q1 => ?_, px⟩
  cases x with
  | int i => cases rx; exact ⟨i, rfl, pv (some i) G1 H1 k1 rh1 q1⟩
  | _ => exact q1.elim
theorem je_sl (he : PE X e (LE X.K te W)) (hl : PO X lo (LO X.K tl W)) (hu : PO X hi (LO X.K th W)) : PE X (.Subscript e (.Slice lo hi none p2) pos) (LE X.K (tSlD te tl th) W) :=
  PE.imp (pe_slice sl_v he hl hu) fun σv H Qv ⟨σ, G, Q, E, rs, rh, h, pv, px⟩ =>
    ⟨σ, G, _, E, rs, rh, h, fun x v G1 H1 k1 rx rh1 q1 => ⟨σ, G1, _, E, rs.keep k1, rh1, q1, fun l G2 H2 k2 rh2 q2 => ⟨σ, G2, _, E, (rs.keep k1).keep k2, rh2, q2, fun u G3 H3 k3 rh3 q3 =>
      oSl_ok ((rx.keep k2).keep k3) rh3 q3 (pv.keep ((k1.trans k2).trans k3)), px.keep (k1.trans k2)⟩, px.keep k1⟩, px⟩
end
/-! ### argument lists, displays -/
def tNilD : TAD := fun _ G Q _ => Q [] G
def tConsD (ta : TED) (tr : TAD) : TAD := fun σ G Q E => ta σ G (fun x G1 => tr σ G1 (fun xs G2 => Q (x :: xs) G2) E) E
def tTupD (t : TAD) : TED := fun σ G Q E => t σ G (fun xs G1 => xs.length ≤ sizeLine ∧ Q (.tup xs) G1) E
def tLstD (t : TAD) : TED := fun σ G Q E => t σ G (fun xs G1 => xs.length ≤ sizeLine ∧ ∀ p, G1 p = none → Q (.ref p) (up G1 p (.lst xs))) E
section
variable {X : Cx} {W : WX} {e : Expr} {es : List Expr} {te : TED} {t : TAD} {pos : Pos}
theorem ja_nil : PA X [] (LA X.K tNilD W) := PA.imp pa_nil fun σv H Qv ⟨σ, G, Q, E, rs, rh, h, pv, px⟩ => pv [] [] G H (Tk.refl H) .nil rh h
theorem ja_cons (ha : PE X e (LE X.K te W)) (hr : PA X es (LA X.K t W)) (hs : starEach (e :: es) X.env = (false, eval e X.env) :: starEach es X.env) : PA X (e :: es) (LA X.K (tConsD te t) W) :=
  PA.imp (pa_cons ha hr hs) fun σv H Qv ⟨σ, G, Q, E, rs, rh, h, pv, px⟩ =>
    ⟨σ, G, _, E, rs, rh, h, fun x v G1 H1 k1 rx rh1 q1 => ⟨σ, G1, _, E, rs.keep k1, rh1, q1, fun xs vs G2 H2 k2 rxs rh2 q2 => pv _ _ G2 H2 (k1.trans k2) (.cons (rx.keep k2) rxs) rh2 q2, px.keep k1⟩, px⟩
theorem je_tup {k : Nat} (h : PA X es (LA X.K t W)) : PE X (.Tuple es k pos) (LE X.K (tTupD t) W) :=
  PE.imp (pe_tup h) fun σv H Qv ⟨σ, G, Q, E, rs, rh, h, pv, px⟩ =>
    ⟨σ, G, _, E, rs, rh, h, fun xs vs G1 H1 k1 r rh1 q1 => ⟨by rw [← r.len]; exact q1.1, fun p hp => pv _ _ G1 _ (k1.trans (Tk.new hp)) (.tup (.inl (.inl upd_same)) (r.keep (Tk.new hp))) (rh1.skip hp) q1.2⟩, px⟩
theorem je_lst (h : PA X es (LA X.K t W)) : PE X (.List es pos) (LE X.K (tLstD t) W) :=
  PE.imp (pe_lst h) fun σv H Qv ⟨σ, G, Q, E, rs, rh, h, pv, px⟩ =>
    ⟨σ, G, _, E, rs, rh, h, fun xs vs G1 H1 k1 r rh1 q1 => ⟨by rw [← r.len]; exact q1.1, fun p hp => pv _ _ _ _ (k1.trans (Tk.new hp)) (.ref p) (rh1.new_lst hp r) (q1.2 p (rh1.none hp))⟩, px⟩
end
/-! ### names, constants -/
def tVarD (i : Nat) : TED := fun σ G Q _ => match σ[i]? with
  | some (some d) => Q d G
  | _ => False
def tConD (d : D) : TED := fun _ G Q _ => Q d G
section
variable {X : Cx} {W : WX} {pos : Pos}
theorem je_var {i : Nat} {x : Str} (hN : X.N[i]? = some x) (hv : Vis X.env.scope x) (hd : (x == ("__debug__" : Str)) = false) (hcd : (x == ("__classdict__" : Str)) = false) : PE X (.Name x pos) (LE X.K (tVarD i) W) :=
  PE.imp (pe_var hN hv hd hcd) fun σv H Qv ⟨σ, G, Q, E, rs, rh, h, pv, px⟩ => by
    unfold tVarD at h
    cases e : σ[i]? with
    | none => rw [e] at h; exact h.elim
    | some o =>
      cases o with
      | none => rw [e] at h; exact h.elim
      | some d =>
        rw [e] at h
        obtain ⟨v, e2, r⟩ := rs.2 i d e
        exact ⟨v, e2, pv.here r rh h⟩
theorem je_con {e : Expr} {d : D} {v : V} (h : PE X e (tC v)) (r : ∀ H, RD X.K H d v) : PE X e (LE X.K (tConD d) W) :=
  PE.imp h fun σv H Qv ⟨σ, G, Q, E, rs, rh, h, pv, px⟩ => pv.here (r H) rh h
end
/-! ### truth -/
def truD (x : D) (G : Hd) (k : Bool → Prop) : Prop := match x with
  | .non => k false
  | .bl b => k b
  | .int i => k (i != 0)
  | .str y => y.length ≤ sizeLine ∧ k ((y.length : Int) != 0)
  | .tup ds => k (!ds.isEmpty)
  | .rol ds => k (!ds.isEmpty)
  | .ref a => ∃ ds, G a = some (.lst ds) ∧ k (!ds.isEmpty)
  | .ty _ => False
theorem RDs.isE {K : PySem.W.Frag} {H : Hp} {ds : List D} {vs : List V} (r : RDs K H ds vs) : ds.isEmpty = vs.isEmpty := by
  cases r <;> rfl
theorem truD_ok {K : PySem.W.Frag} {H : Hp} {G : Hd} {x : D} {v : V} {k : Bool → Prop} (rx : RD K H x v) (rh : RH K G H) (h : truD x G k) : ∃ b, TruV K v H b ∧ k b := by
  cases x with
  | non => cases rx; exact ⟨false, rfl, h⟩
  | bl b => cases rx; exact ⟨b, rfl, h⟩
  | int i => cases rx; exact ⟨_, rfl, h⟩
  | str y => cases rx; exact ⟨_, ⟨h.1, rfl⟩, h.2⟩
  | tup ds =>
    cases rx with
    | tup s r => exact ⟨_, .inr (.inl ⟨_, s, by rw [← r.isE]⟩), h⟩
  | rol ds =>
    cases rx with
    | rol s r => exact ⟨_, .inl ⟨_, s.seq, by rw [← r.isE]⟩, h⟩
  | ref a =>
    cases rx
    obtain ⟨ds, e, h⟩ := h
    obtain ⟨vs, f, r⟩ := rh a _ e
    exact ⟨_, .inl ⟨vs, SqL.of f, by rw [← r.isE]⟩, h⟩
  | ty n => exact h.elim
def tTruD (t : TED) : TTD := fun σ G Q E => t σ G (fun x G1 => truD x G1 fun b => Q b G1) E
/-- a comparison's bool -/
def tBoolD (t : TED) : TTD := fun σ G Q E => t σ G (fun x G1 => match x with
  | .bl b => Q b G1
  | _ => False) E
def tNotD (t : TTD) : TTD := fun σ G Q E => t σ G (fun b G1 => Q (!b) G1) E
def tAndD (t u : TTD) : TTD := fun σ G Q E => t σ G (fun b G1 => pick b (u σ G1 Q E) (Q false G1)) E
def tOrD (t u : TTD) : TTD := fun σ G Q E => t σ G (fun b G1 => pick b (Q true G1) (u σ G1 Q E)) E
/-- and, or, not as values -/
def tAndV (t u : TED) : TED := fun σ G Q E => t σ G (fun x G1 => truD x G1 fun b => pick b (u σ G1 Q E) (Q x G1)) E
def tOrV (t u : TED) : TED := fun σ G Q E => t σ G (fun x G1 => truD x G1 fun b => pick b (Q x G1) (u σ G1 Q E)) E
def tNotVD (t : TED) : TED := fun σ G Q E => t σ G (fun x G1 => truD x G1 fun b => Q (.bl (!b)) G1) E
def tIfD (c : TTD) (t u : TED) : TED := fun σ G Q E => c σ G (fun b G1 => pick b (t σ G1 Q E) (u σ G1 Q E)) E
def tChD (q q' : R2D) (ta tb tc : TED) : TED := fun σ G Q E => ta σ G (fun x G1 => tb σ G1 (fun y G2 => q x y G2 fun z G3 => match z with
  | .bl k => pick k (tc σ G3 (fun w G4 => q' y w G4 Q) E) (Q (.bl false) G3)
  | _ => False) E) E
section
variable {X : Cx} {W : WX} {a b c : Expr} {ta tb tc : TED} {pos : Pos} {rest : List Expr} {t u : TTD}
theorem jt_tru (ha : PE X a (LE X.K ta W)) (he : ∀ whole, isTrue a X.env whole = (do let v ← whole; standAt a.pos; holding [v] (truthy v))) : PT X a (LT X.K (tTruD ta) W) :=
  PT.imp (pt_truth ha he) fun σv H Qv ⟨σ, G, Q, E, rs, rh, h, pv, px⟩ => ⟨σ, G, _, E, rs, rh, h, fun x v G1 H1 k1 rx rh1 q1 => by
    obtain ⟨b, e, q⟩ := truD_ok rx rh1 q1
    exact ⟨b, e, pv b G1 H1 k1 rh1 q⟩, px⟩
theorem bool_imp {tv : TE} (h : ∀ σ H Q, LE X.K ta W σ H Q → tv σ H Q) : ∀ σ H Q, LT X.K (tBoolD ta) W σ H Q → tTest tv σ H Q := fun σv H Qv ⟨σ, G, Q, E, rs, rh, k, pv, px⟩ =>
  h σv H _ ⟨σ, G, _, E, rs, rh, k, fun x v G1 H1 k1 rx rh1 q1 => by
    cases x with
    | bl b => cases rx; exact ⟨b, rfl, pv b G1 H1 k1 rh1 q1⟩
    | _ => exact q1.elim, px⟩
theorem jt_cmp {op : CmpOp} {r : R2} {q : R2D} (hr : OpR X (compareOp op) r) (ho : OpD X.K r q) (ha : PE X a (LE X.K ta W)) (hb : PE X b (LE X.K tb W)) (hm : behindInMarks op b = false) : PT X (.Compare a [op] [b] pos) (LT X.K (tBoolD (tBin q ta tb)) W) :=
  PT.imp (pt_cmpR hr ha hb hm) (bool_imp (bin_imp ho))
theorem ch_imp {K : PySem.W.Frag} {r r' : R2} {q q' : R2D} (ho : OpD K r q) (ho' : OpD K r' q') : ∀ σ H Q, LE K (tChD q q' ta tb tc) W σ H Q → tChain r r' (LE K ta W) (LE K tb W) (LE K tc W) σ H Q := fun σv H Qv ⟨σ, G, Q, E, rs, rh, h, pv, px⟩ =>
  ⟨σ, G, _, E, rs, rh, h, fun x v G1 H1 k1 rx rh1 q1 => ⟨σ, G1, _, E, rs.keep k1, rh1, q1, fun y u G2 H2 k2 ry rh2 q2 => by
    refine ho H2 G2 x y v u _ _ (rx.keep k2) ry rh2 q2 fun z w G3 H3 k3 rz rh3 q3 => ?_
    cases z with
    | bl k =>
      cases rz
      refine ⟨k, rfl, ?_⟩
      cases k with
      | true =>
        refine ite_tt ?_
        have q3' : tc σ G3 (fun w G4 => q' y w G4 Q) E := q3
        refine ⟨σ, G3, _, E, (rs.keep k1).keep (k2.trans k3), rh3, q3', fun w' w2 G4 H4 k4 rw' rh4 q4 => ?_, px.keep ((k1.trans k2).trans k3)⟩
        exact ho' H4 G4 y w' u w2 Q Qv ((ry.keep k3).keep k4) rw' rh4 q4 (pv.keep (((k1.trans k2).trans k3).trans k4))
      | false => exact ite_ff (pv _ _ G3 H3 ((k1.trans k2).trans k3) (.bl _) rh3 q3)
    | _ => exact q3.elim, px.keep k1⟩, px⟩
theorem je_ch {op op' : CmpOp} {r r' : R2} {q q' : R2D} (hr : OpR X (compareOp op) r) (hr' : OpR X (compareOp op') r') (ho : OpD X.K r q) (ho' : OpD X.K r' q') (ha : PE X a (LE X.K ta W)) (hb : PE X b (LE X.K tb W)) (hc : PE X c (LE X.K tc W)) (hm : lastMarks [op, op'] [b, c] = false) :
    PE X (.Compare a [op, op'] [b, c] pos) (LE X.K (tChD q q' ta tb tc) W) := PE.imp (pe_chain hr hr' ha hb hc hm) (ch_imp ho ho')
theorem jt_ch {op op' : CmpOp} {r r' : R2} {q q' : R2D} (hr : OpR X (compareOp op) r) (hr' : OpR X (compareOp op') r') (ho : OpD X.K r q) (ho' : OpD X.K r' q') (ha : PE X a (LE X.K ta W)) (hb : PE X b (LE X.K tb W)) (hc : PE X c (LE X.K tc W)) (hm : lastMarks [op, op'] [b, c] = false) :
    PT X (.Compare a [op, op'] [b, c] pos) (LT X.K (tBoolD (tChD q q' ta tb tc)) W) := PT.imp (pt_chain hr hr' ha hb hc hm) (bool_imp (ch_imp ho ho'))
theorem jt_not (ha : PT X a (LT X.K t W)) : PT X (.UnaryOp .Not a pos) (LT X.K (tNotD t) W) :=
  PT.imp (pt_not ha) fun σv H Qv ⟨σ, G, Q, E, rs, rh, h, pv, px⟩ => ⟨σ, G, _, E, rs, rh, h, fun b G1 H1 k1 rh1 q1 => pv _ G1 H1 k1 rh1 q1, px⟩
theorem jw_and1 (ha : PT X a (LT X.K t W)) : PW X (.BoolOp .And [a] pos) (LT X.K t W) := pw_and1 ha
theorem jw_or1 (ha : PT X a (LT X.K t W)) : PW X (.BoolOp .Or [a] pos) (LT X.K t W) := pw_or1 ha
theorem jw_and (ha : PT X a (LT X.K t W)) (hb : PW X (.BoolOp .And (b :: rest) pos) (LT X.K u W)) : PW X (.BoolOp .And (a :: b :: rest) pos) (LT X.K (tAndD t u) W) :=
  PW.imp (pw_and ha hb) fun σv H Qv ⟨σ, G, Q, E, rs, rh, h, pv, px⟩ => ⟨σ, G, _, E, rs, rh, h, fun b G1 H1 k1 rh1 q1 => by
    cases b with
    | true => exact ite_tt ⟨σ, G1, Q, E, rs.keep k1, rh1, q1, pv.keep k1, px.keep k1⟩
    | false => exact ite_ff (pv _ G1 H1 k1 rh1 q1), px⟩
theorem jw_or (ha : PT X a (LT X.K t W)) (hb : PW X (.BoolOp .Or (b :: rest) pos) (LT X.K u W)) : PW X (.BoolOp .Or (a :: b :: rest) pos) (LT X.K (tOrD t u) W) :=
  PW.imp (pw_or ha hb) fun σv H Qv ⟨σ, G, Q, E, rs, rh, h, pv, px⟩ => ⟨σ, G, _, E, rs, rh, h, fun b G1 H1 k1 rh1 q1 => by
    cases b with
    | true => exact ite_tt (pv _ G1 H1 k1 rh1 q1)
    | false => exact ite_ff ⟨σ, G1, Q, E, rs.keep k1, rh1, q1, pv.keep k1, px.keep k1⟩, px⟩
theorem je_one {op : BoolOp} (ha : PE X a (LE X.K ta W)) : PE X (.BoolOp op [a] pos) (LE X.K ta W) := pe_one ha
theorem je_and (ha : PE X a (LE X.K ta W)) (hb : PE X (.BoolOp .And (b :: rest) pos) (LE X.K tb W)) : PE X (.BoolOp .And (a :: b :: rest) pos) (LE X.K (tAndV ta tb) W) :=
  PE.imp (pe_andT ha hb) fun σv H Qv ⟨σ, G, Q, E, rs, rh, h, pv, px⟩ => ⟨σ, G, _, E, rs, rh, h, fun x v G1 H1 k1 rx rh1 q1 => by
    obtain ⟨b, e, q⟩ := truD_ok rx rh1 q1
    refine ⟨b, e, ?_⟩
    cases b with
    | true => exact ite_tt ⟨σ, G1, Q, E, rs.keep k1, rh1, q, pv.keep k1, px.keep k1⟩
    | false => exact ite_ff (pv _ _ G1 H1 k1 rx rh1 q), px⟩
theorem je_or (ha : PE X a (LE X.K ta W)) (hb : PE X (.BoolOp .Or (b :: rest) pos) (LE X.K tb W)) : PE X (.BoolOp .Or (a :: b :: rest) pos) (LE X.K (tOrV ta tb) W) :=
  PE.imp (pe_orT ha hb) fun σv H Qv ⟨σ, G, Q, E, rs, rh, h, pv, px⟩ => ⟨σ, G, _, E, rs, rh, h, fun x v G1 H1 k1 rx rh1 q1 => by
    obtain ⟨b, e, q⟩ := truD_ok rx rh1 q1
    refine ⟨b, e, ?_⟩
    cases b with
    | true => exact ite_tt (pv _ _ G1 H1 k1 rx rh1 q)
    | false => exact ite_ff ⟨σ, G1, Q, E, rs.keep k1, rh1, q, pv.keep k1, px.keep k1⟩, px⟩
theorem je_not (ha : PE X a (LE X.K ta W)) : PE X (.UnaryOp .Not a pos) (LE X.K (tNotVD ta) W) :=
  PE.imp (pe_notT ha) fun σv H Qv ⟨σ, G, Q, E, rs, rh, h, pv, px⟩ => ⟨σ, G, _, E, rs, rh, h, fun x v G1 H1 k1 rx rh1 q1 => by
    obtain ⟨b, e, q⟩ := truD_ok rx rh1 q1
    exact ⟨b, e, pv _ _ G1 H1 k1 (.bl _) rh1 q⟩, px⟩
theorem je_if (hc : PT X c (LT X.K t W)) (ha : PE X a (LE X.K ta W)) (hb : PE X b (LE X.K tb W)) : PE X (.IfExp c a b pos) (LE X.K (tIfD t ta tb) W) :=
  PE.imp (pe_ifExp hc ha hb) fun σv H Qv ⟨σ, G, Q, E, rs, rh, h, pv, px⟩ => ⟨σ, G, _, E, rs, rh, h, fun b G1 H1 k1 rh1 q1 => by
    cases b with
    | true => exact ite_tt ⟨σ, G1, Q, E, rs.keep k1, rh1, q1, pv.keep k1, px.keep k1⟩
    | false => exact ite_ff ⟨σ, G1, Q, E, rs.keep k1, rh1, q1, pv.keep k1, px.keep k1⟩, px⟩
/-- -e -/
def oNeg (x : D) (G : Hd) (Q : KD) : Prop := match x with
  | .int i => Q (.int (-i)) G
  | _ => False
def tNegD (t : TED) : TED := fun σ G Q E => t σ G (fun x G1 => oNeg x G1 Q) E
theorem je_neg (ha : PE X a (LE X.K ta W)) : PE X (.UnaryOp .USub a pos) (LE X.K (tNegD ta) W) :=
  PE.imp (pe_un un_neg ha) fun σv H Qv ⟨σ, G, Q, E, rs, rh, h, pv, px⟩ => ⟨σ, G, _, E, rs, rh, h, fun x v G1 H1 k1 rx rh1 q1 => by
    cases x with
    | int i => cases rx; exact ⟨i, rfl, pv _ _ G1 H1 k1 (.int _) rh1 q1⟩
    | _ => exact q1.elim, px⟩
end
end Y

/-! Y4: fields; calls of defs, methods, classes; built-ins; isinstance. -/
namespace Y
open PySem PySem.Spec PyProof.Rows L2
variable [T : Tab]

/-! ### room -/
/-- what a callee of level n asks -/
structure Rm (n : Nat) (A : Around) : Prop where
  hd : A.handled = none
  dp : A.depth + 2 * n + 7 < recursionLimit
  un : A.units + 8 * n + 300 < cLine
  gd : A.guards = some []
/-- what a body has whose callees are of level n -/
structure Rb (n : Nat) (A : Around) : Prop where
  hd : A.handled = none
  dp : A.depth + 2 * n + 8 < recursionLimit
  un : A.units + 8 * n + 304 < cLine
  gd : A.guards = some []
theorem Rm.body {n : Nat} {A : Around} (r : Rm (n + 1) A) (env : Env) : Rb n (A.deeper env) :=
  ⟨r.hd, by have := r.dp; show A.depth + 1 + 2 * n + 8 < _; omega, by have := r.un; show A.units + 3 + 8 * n + 304 < _; omega, r.gd⟩
theorem Rb.rm {n : Nat} {A : Around} (r : Rb n A) : Rm n A := ⟨r.hd, by have := r.dp; omega, by have := r.un; omega, r.gd⟩
theorem Rb.u {n : Nat} {A : Around} (r : Rb n A) : A.units + 65 < cLine := by have := r.un; omega
theorem under_guards {A : Around} {C : Addr} {us : List Value} {kw : List (Str × Value)} : (A.under (.builtin "type.__call__" ⟨.ref C :: us, kw⟩)).guards = A.guards := by
  first | rfl | simp [Around.under, Code.isGuard, guardIds]
theorem Rb.make {n : Nat} {A : Around} (r : Rb n A) (C : Addr) (us : List Value) (kw : List (Str × Value)) : Rm n (A.under (.builtin "type.__call__" ⟨.ref C :: us, kw⟩)) :=
  ⟨r.hd, by have := r.dp; rw [make_depth]; omega, by have := r.un; rw [make_units]; omega, by rw [under_guards]; exact r.gd⟩

/-! ### a def keeps a promise (errors may leave it) -/
structure FnG (P : Program) (w : World) (K : PySem.W.Frag) (mg : Str → Option Value) (base : Heap) (n : Nat) (f : Addr) (fd : FuncData) (ps : List Str) (sp : Sp) : Prop where
  len : ∀ vs H Q E, sp vs H Q E → vs.length = ps.length
  run : ∀ (A : Around) (outer : List Env) (s : Shared) (H : Hp) (args : Args) (us : List Value) (vs : List V) (Q : VK) (E : XK), Rm n A → Env0 P w K mg base A outer s H → BindsTo s fd args (ps.zip us) → Vals vs us → sp vs H Q E →
    codeAny (model P w) A (.call (.ref f) args) (CR (CX P w) outer P w H s Q E) s
/-- how m positional values and the keywords ks are bound; dvs: the defaults behind them -/
def BdOk (K : PySem.W.Frag) (fd : FuncData) (ps : List Str) (m : Nat) (ks : List Str) (dvs : List V) : Prop :=
  ∃ ds : List Value, Vals dvs ds ∧ ∀ (s : Shared) (us ws : List Value), K.In s.heap → us.length = m → ws.length = ks.length → BindsTo s fd ⟨us, ks.zip ws⟩ (ps.zip (us ++ (ws ++ ds)))
section
variable {X : Cx} {W : WX} {n m : Nat} {f C : Addr} {fd : FuncData} {ps ks : List Str} {sp : Sp} {dvs : List V} {pins : List (Addr × Obj)} {σ : L2.St} {H : Hp} {s : Shared} {Q : VK} {us ws : List Value} {vs zs : List V}
theorem run_g (F : FnG X.prog X.w X.K X.mg X.base n f fd ps sp) (hr : Rb n X.A) (hb : BdOk X.K fd ps m ks dvs) (tk : Takes X W) (I : Inv X pins σ H s) (r : Vals vs us) (rz : Vals zs ws) (hm : us.length = m) (hk : ws.length = ks.length)
    (h : sp (vs ++ (zs ++ dvs)) H Q (fun c d H' => W c d σ H')) : wpAny (model X.prog X.w) X.A (call (.ref f) us (ks.zip ws)) (EP X pins σ Q) X.xe s := by
  obtain ⟨ds, rd, hbd⟩ := hb
  have r2 : Vals (vs ++ (zs ++ dvs)) (us ++ (ws ++ ds)) := r.append (rz.append rd)
  refine wpAny_call (codeAny_mono (F.run X.A X.stack s H ⟨us, ks.zip ws⟩ (us ++ (ws ++ ds)) _ Q _ hr.rm I.env0 (hbd s us ws I.kIn hm hk) r2 h) fun q s' hq => ?_)
  cases q with
  | error e => exact tk e s' (XE.of_call I (fun _ _ _ z => z) hq)
  | ok fl =>
    cases fl with
    | ret u => exact I.after hq
    | next => exact False.elim hq
    | brk => exact False.elim hq
    | cont => exact False.elim hq
end
/-- a promise over D, as the layer has it -/
abbrev SpD := List D → Hd → KD → XD → Prop
def LS (K : PySem.W.Frag) (sp : SpD) : Sp := fun vs H Qv Ev => ∃ ds G Q E, RDs K H ds vs ∧ RH K G H ∧ sp ds G Q E ∧ PV K H Q Qv ∧
  ∀ c fs cls dd G' H', Tk K H H' → RX K H' c fs cls dd → RH K G' H' → E c fs G' → Ev cls dd H'
/-- the argument list and the keywords' values -/
def tCallD (sp : SpD) (dv : List D) (m k : Nat) (ta tk : TAD) : TED := fun σ G Q E => ta σ G (fun xs G1 => tk σ G1 (fun zs G2 => xs.length = m ∧ zs.length = k ∧ sp (xs ++ (zs ++ dv)) G2 Q E) E) E
theorem PK.imp {X : Cx} {e : List Keyword} {t t' : TA} (h : PK X e t) (k : ∀ σ H Q, t' σ H Q → t σ H Q) : PK X e t' := ⟨fun pos pins s σ H Q I q => h.run pos pins s σ H Q I (k σ H Q q)⟩
section
variable {X : Cx} {W : WX} {n m : Nat} {f C : Addr} {fd : FuncData} {ps ks : List Str} {sp : SpD} {dv : List D} {x : Str} {e : Expr} {es : List Expr} {kws : List Keyword} {ta tk : TAD} {pos p : Pos}
/-- at the callee: from values to the promise -/
theorem go_g {pins : List (Addr × Obj)} {σ : St} {σv : L2.St} {H H1 : Hp} {G : Hd} {s : Shared} {Q : KD} {E : XD} {Qv : VK} {us ws : List Value} {xs zs : List D} {vs ys : List V}
    (F : FnG X.prog X.w X.K X.mg X.base n f fd ps (LS X.K sp)) (hr : Rb n X.A) (hb : ∀ H, ∃ dvs, RDs X.K H dv dvs ∧ BdOk X.K fd ps m ks dvs) (tk : Takes X W) (I : Inv X pins σv H1 s) (r : Vals vs us) (rz : Vals ys ws)
    (rx : RDs X.K H1 xs vs) (rzs : RDs X.K H1 zs ys) (rh : RH X.K G H1) (hm : xs.length = m) (hk : zs.length = ks.length) (h : sp (xs ++ (zs ++ dv)) G Q E) (kk : Tk X.K H H1) (pv : PV X.K H Q Qv) (px : PX X.K H σv E W) :
    wpAny (model X.prog X.w) X.A (call (.ref f) us (ks.zip ws)) (EP X pins σv Qv) X.xe s := by
  obtain ⟨dvs, rd, hb⟩ := hb H1
  refine run_g F hr hb tk I r rz (by rw [← r.length, ← rx.len]; exact hm) (by rw [← rz.length, ← rzs.len]; exact hk) ?_
  exact ⟨_, G, Q, E, rx.app (rzs.app rd), rh, h, pv.keep kk, fun c fs cls dd G' H' k1 rx1 rh1 e1 => px c fs cls dd G' H' (kk.trans k1) rx1 rh1 e1⟩
theorem je_call (F : FnG X.prog X.w X.K X.mg X.base n f fd ps (LS X.K sp)) (hr : Rb n X.A) (hb : ∀ H, ∃ dvs, RDs X.K H dv dvs ∧ BdOk X.K fd ps m [] dvs) (tk : Takes X W) (hg : Gl X x) (hm : X.mg x = some (.ref f)) (kp : PySem.W.keepIn X.K (.ref f) = true)
    (ha : PA X (e :: es) (LA X.K ta W)) (hdb : (x == ("__debug__" : Str)) = false) (he : starEach (e :: es) X.env = (false, eval e X.env) :: starEach es X.env) (hpl : (backTo pos (starEach es X.env)).any (·.1) = false) :
    PE X (.Call (.Name x p) (e :: es) [] pos) (LE X.K (tCallD sp dv m 0 ta tNilD) W) := by
  refine ⟨fun pins s σv H Qv I ⟨σ, G, Q, E, rs, rh, h, pv, px⟩ => ?_⟩
  refine wpAny_Call_Name_kw (ld_glob I hg hm ?_ hdb)
  refine PySem.W.callWith_K (h₀ := X.base) I.ok.mod.kin kp (thn (ha.run pos pins s σv H (fun vs H1 => ∃ xs G1, Tk X.K H H1 ∧ RDs X.K H1 xs vs ∧ RH X.K G1 H1 ∧ xs.length = m ∧ sp (xs ++ ([] ++ dv)) G1 Q E) I ?_) fun us s1 ⟨vs, H1, I1, r, xs, G1, k1, rx, rh1, l1, q⟩ => ⟨I1.kIn, ?_⟩) he hpl
  · exact ⟨σ, G, _, E, rs, rh, h, fun xs vs G1 H1 k1 rx rh1 q1 => ⟨xs, G1, k1, rx, rh1, q1.1, q1.2.2⟩, px⟩
  · exact go_g (ks := []) (zs := []) (ys := []) (ws := []) (σ := σ) F hr hb tk I1 r .nil rx .nil rh1 l1 rfl q k1 pv px
theorem je_call0 (F : FnG X.prog X.w X.K X.mg X.base n f fd ps (LS X.K sp)) (hr : Rb n X.A) (hb : ∀ H, ∃ dvs, RDs X.K H dv dvs ∧ BdOk X.K fd ps m [] dvs) (tk : Takes X W) (hg : Gl X x) (hm : X.mg x = some (.ref f)) (kp : PySem.W.keepIn X.K (.ref f) = true)
    (hdb : (x == ("__debug__" : Str)) = false) : PE X (.Call (.Name x p) [] [] pos) (LE X.K (tCallD sp dv m 0 tNilD tNilD) W) := by
  refine ⟨fun pins s σv H Qv I ⟨σ, G, Q, E, rs, rh, h, pv, px⟩ => ?_⟩
  obtain ⟨l1, _, q⟩ := h
  refine wpAny_Call_Name_kw (ld_glob I hg hm ?_ hdb)
  exact PySem.W.callWith_K0 I.kIn kp (go_g (us := []) (vs := []) (ks := []) (xs := []) (zs := []) (ys := []) (ws := []) (σ := σ) F hr hb tk I .nil .nil .nil .nil rh l1 rfl q (Tk.refl H) pv px)
theorem je_callK (F : FnG X.prog X.w X.K X.mg X.base n f fd ps (LS X.K sp)) (hr : Rb n X.A) (hb : ∀ H, ∃ dvs, RDs X.K H dv dvs ∧ BdOk X.K fd ps m ks dvs) (tkk : Takes X W) (hg : Gl X x) (hm : X.mg x = some (.ref f)) (kp : PySem.W.keepIn X.K (.ref f) = true)
    (ha : PA X (e :: es) (LA X.K ta W)) (hkw : PK X kws (LA X.K tk W)) (hall : (backToKw pos (keywordEach kws X.env)).all (·.1.isSome) = true) (hks : (backToKw pos (keywordEach kws X.env)).filterMap (·.1) = ks)
    (hdb : (x == ("__debug__" : Str)) = false) (he : starEach (e :: es) X.env = (false, eval e X.env) :: starEach es X.env)
    (hpl : ((backTo pos (starEach (e :: es) X.env)).any (·.1) || (backToKw pos (keywordEach kws X.env)).any (·.1.isNone)) = false) :
    PE X (.Call (.Name x p) (e :: es) kws pos) (LE X.K (tCallD sp dv m ks.length ta tk) W) := by
  refine ⟨fun pins s σv H Qv I ⟨σ, G, Q, E, rs, rh, h, pv, px⟩ => ?_⟩
  refine wpAny_Call_Name_kw (ld_glob I hg hm ?_ hdb)
  refine PySem.W.callWith_KW (h₀ := X.base) I.ok.mod.kin kp hall (thn (ha.run pos pins s σv H (fun vs H1 => ∃ xs G1, Tk X.K H H1 ∧ RDs X.K H1 xs vs ∧ RH X.K G1 H1 ∧ tk σ G1 (fun zs G2 => xs.length = m ∧ zs.length = ks.length ∧ sp (xs ++ (zs ++ dv)) G2 Q E) E) I ?_) fun us s1 ⟨vs, H1, I1, r, xs, G1, k1, rx, rh1, q⟩ => ?_) hpl he
  · exact ⟨σ, G, _, E, rs, rh, h, fun xs vs G1 H1 k1 rx rh1 q1 => ⟨xs, G1, k1, rx, rh1, q1⟩, px⟩
  · refine thn (hkw.run pos pins s1 σv H1 (fun ys H2 => ∃ zs G2, Tk X.K H1 H2 ∧ RDs X.K H2 zs ys ∧ RH X.K G2 H2 ∧ xs.length = m ∧ zs.length = ks.length ∧ sp (xs ++ (zs ++ dv)) G2 Q E) I1 ?_) fun ws s2 ⟨ys, H2, I2, rz, zs, G2, k2, rzs, rh2, l1, l2, q2⟩ => ⟨I2.kIn, ?_⟩
    · exact ⟨σ, G1, _, E, rs.keep k1, rh1, q, fun zs ys G2 H2 k2 rzs rh2 q2 => ⟨zs, G2, k2, rzs, rh2, q2⟩, px.keep k1⟩
    · rw [hks]
      exact go_g (σ := σ) F hr hb tkk I2 r rz (rx.keep k2) rzs rh2 l1 l2 q2 (k1.trans k2) pv px
end
theorem jk_nil {X : Cx} {W : WX} : PK X [] (LA X.K tNilD W) := PK.imp pk_nil fun σv H Qv ⟨σ, G, Q, E, rs, rh, h, pv, px⟩ => pv [] [] G H (Tk.refl H) .nil rh h
theorem jk_cons {X : Cx} {W : WX} {e : Expr} {te : TED} {t : TAD} {kws : List Keyword} {nm : Option Str} {kpos : Pos} (ha : PE X e (LE X.K te W)) (hr : PK X kws (LA X.K t W)) : PK X (⟨nm, e, kpos⟩ :: kws) (LA X.K (tConsD te t) W) :=
  PK.imp (pk_cons ha hr) fun σv H Qv ⟨σ, G, Q, E, rs, rh, h, pv, px⟩ =>
    ⟨σ, G, _, E, rs, rh, h, fun x v G1 H1 k1 rx rh1 q1 => ⟨σ, G1, _, E, rs.keep k1, rh1, q1, fun xs vs G2 H2 k2 rxs rh2 q2 => pv _ _ G2 H2 (k1.trans k2) (.cons (rx.keep k2) rxs) rh2 q2, px.keep k1⟩, px⟩

/-! ### fields -/
def lookF (f : Str) (fs : List (Str × D)) : Option D := fs.lookup f
def putD (f : Str) (d : D) : List (Str × D) → List (Str × D)
  | [] => [(f, d)]
  | (g, e) :: r => if g = f then (g, d) :: r else (g, e) :: putD f d r
theorem RF.look {K : PySem.W.Frag} {H : Hp} {fs : List (Str × D)} {gs : List (Str × V)} (h : RF K H fs gs) {f : Str} {d : D} (e : fs.lookup f = some d) : ∃ v, gs.lookup f = some v ∧ RD K H d v := by
  obtain ⟨h1, h2⟩ := h
  induction fs generalizing gs with
  | nil => cases e
  | cons p fs ih =>
    obtain ⟨g, x⟩ := p
    cases gs with
    | nil => simp at h1
    | cons q gs =>
      obtain ⟨g', v⟩ := q
      simp only [List.map_cons, List.cons.injEq] at h1
      obtain ⟨e1, h1⟩ := h1
      subst e1
      cases h2 with
      | cons r1 r2 =>
        rw [List.lookup_cons] at e ⊢
        cases hb : f == g with
        | true => rw [hb] at e; cases e; exact ⟨v, rfl, r1⟩
        | false => rw [hb] at e; exact ih e h1 r2
theorem RF.lookN {K : PySem.W.Frag} {H : Hp} {fs : List (Str × D)} {gs : List (Str × V)} (h : RF K H fs gs) {f : Str} (e : fs.lookup f = none) : gs.lookup f = none := by
  obtain ⟨h1, h2⟩ := h
  induction fs generalizing gs with
  | nil => cases gs with
    | nil => rfl
    | cons q gs => simp at h1
  | cons p fs ih =>
    obtain ⟨g, x⟩ := p
    cases gs with
    | nil => simp at h1
    | cons q gs =>
      obtain ⟨g', v⟩ := q
      simp only [List.map_cons, List.cons.injEq] at h1
      obtain ⟨e1, h1⟩ := h1
      subst e1
      cases h2 with
      | cons r1 r2 =>
        rw [List.lookup_cons] at e ⊢
        cases hb : f == g with
        | true => rw [hb] at e; cases e
        | false => rw [hb] at e; exact ih e h1 r2
theorem RF.put {K : PySem.W.Frag} {H : Hp} {f : Str} {d : D} {v : V} (r : RD K H d v) : ∀ {fs : List (Str × D)} {gs : List (Str × V)}, RF K H fs gs → RF K H (putD f d fs) (putF f v gs)
  | [], gs, h => by
    cases gs with
    | nil => exact ⟨rfl, .cons r .nil⟩
    | cons q gs => simp [RF] at h
  | (g, x) :: fs, gs, h => by
    obtain ⟨h1, h2⟩ := h
    cases gs with
    | nil => simp at h1
    | cons q gs =>
      obtain ⟨g', w⟩ := q
      simp only [List.map_cons, List.cons.injEq] at h1
      obtain ⟨e1, h1⟩ := h1
      subst e1
      cases h2 with
      | cons r1 r2 =>
        by_cases hg : g = f
        · subst hg
          have e1 : putD g d ((g, x) :: fs) = (g, d) :: fs := if_pos rfl
          have e2 : putF g v ((g, w) :: gs) = (g, v) :: gs := if_pos rfl
          rw [e1, e2]
          exact ⟨by simp [h1], .cons r r2⟩
        · have e1 : putD f d ((g, x) :: fs) = (g, x) :: putD f d fs := if_neg hg
          have e2 : putF f v ((g, w) :: gs) = (g, w) :: putF f v gs := if_neg hg
          rw [e1, e2]
          obtain ⟨k1, k2⟩ := RF.put (f := f) r (fs := fs) (gs := gs) ⟨h1, r2⟩
          exact ⟨by simp only [List.map_cons]; rw [k1], .cons r1 k2⟩
theorem RF.len {K : PySem.W.Frag} {H : Hp} {fs : List (Str × D)} {gs : List (Str × V)} (h : RF K H fs gs) : fs.length = gs.length := by
  have := congrArg List.length h.1
  simpa using this
/-- what the head tells of a class's instances -/
def AttOk (K : PySem.W.Frag) : Prop := ∀ c f, T.att c f = true → Cls K (He.ga K (T.cn c)) ∧ NoAttr K (He.ga K (T.cn c)) f
def tFldD (t : TED) (f : Str) : TED := fun σ G Q E => t σ G (fun x G1 => match x with
  | .ref a => ∃ c fs d, G1 a = some (.ins c fs) ∧ T.att c f = true ∧ fs.lookup f = some d ∧ Q d G1
  | _ => False) E
section
variable {X : Cx} {W : WX} {e : Expr} {te : TED} {f : Str} {pos : Pos}
theorem je_fld (ok : AttOk X.K) (he : PE X e (LE X.K te W)) (hb : attributeBase e f X.env (eval e X.env) = eval e X.env) : PE X (.Attribute e f pos) (LE X.K (tFldD te f) W) :=
  PE.imp (pe_fld he hb) fun σv H Qv ⟨σ, G, Q, E, rs, rh, h, pv, px⟩ => ⟨σ, G, _, E, rs, rh, h, fun x v G1 H1 k1 rx rh1 q1 => by
    cases x with
    | ref a =>
      cases rx
      obtain ⟨c, fs, d, e1, hat, e2, q⟩ := q1
      obtain ⟨dx, gs, e3, rf⟩ := rh1 a _ e1
      obtain ⟨w, e4, rw'⟩ := rf.look e2
      obtain ⟨k3, k4⟩ := ok c f hat
      exact ⟨a, _, dx, gs, w, rfl, e3, k3, k4, e4, pv _ _ G1 H1 k1 rw' rh1 q⟩
    | _ => exact q1.elim, px⟩
end
end Y

/-! Y5: methods, classes called, built-ins, isinstance. -/
namespace Y
open PySem PySem.Spec PyProof.Rows L2
variable [T : Tab]

/-! ### methods of own classes -/
theorem meth_at {M : Model} {A : Around} {E : Value → Shared → Prop} {s : Shared} {env : Env} {o : Expr} {m : Str} {apos pos : Pos} {args : List Expr} {kws : List Keyword} {Q : Value → Shared → Prop}
    (hbase : attributeBase o m env (eval o env) = eval o env) (hform : methodCallForm (args.length + kws.length) (backTo pos (starEach args env)) (backToKw pos (keywordEach kws env)) = true) (hline : (apos.endLine == pos.line) = true)
    (h : wpAny M A (eval o env) (fun ov s₁ => wpAny M A (getMethod ov m (do return (← importBound o env).getD true)) (fun fx s₂ => wpAny M A (callWith pos fx.1 fx.2 (backTo pos (starEach args env)) (backToKw pos (keywordEach kws env))) Q E s₂) E s₁) E s) :
    wpAny M A (eval (.Call (.Attribute o m apos) args kws pos) env) Q E s := by
  rw [arm_eval_Call, hbase]
  refine wpAny_bind (wpAny_mono h (fun ov s₁ h₁ => wpAny_bind (wpAny_standAt ?_)) fun _ _ e => e)
  have hpos : methodCallPos true o env apos pos = pure pos := by unfold methodCallPos; simp [hline]
  unfold methodCall
  rw [hform]
  refine wpAny_bind (wpAny_holding (wpAny_mono h₁ (fun fx s₂ h₂ => ?_) fun _ _ e => e))
  exact wpAny_bind (wpAny_of_eq hpos h₂)
/-- what the head tells of a method -/
def MethOk (X : Cx) (n : Nat) (Γ : Nat → SpD) : Prop := ∀ c m na ks i dv, T.meth c m na ks = some (i, dv) → Cls X.K (He.ga X.K (T.cn c)) ∧
  ∃ f fd ps, Meth X.K (He.ga X.K (T.cn c)) m f ∧ FnG X.prog X.w X.K X.mg X.base n f fd ps (LS X.K (Γ i)) ∧ ∀ H, ∃ dvs, RDs X.K H dv dvs ∧ BdOk X.K fd ps (na + 1) ks dvs
def tMethD (Γ : Nat → SpD) (m : Str) (na : Nat) (ks : List Str) (te : TED) (ta tk : TAD) : TED := fun σ G Q E => te σ G (fun x G1 => match x with
  | .ref a => ∃ c fs i dv, G1 a = some (.ins c fs) ∧ T.meth c m na ks = some (i, dv) ∧ fs.lookup m = none ∧ ta σ G1 (fun xs G2 => tk σ G2 (fun zs G3 => xs.length = na ∧ zs.length = ks.length ∧ Γ i (x :: (xs ++ (zs ++ dv))) G3 Q E) E) E
  | _ => False) E
section
variable {X : Cx} {W : WX} {n : Nat} {Γ : Nat → SpD} {m : Str} {o e : Expr} {es : List Expr} {kws : List Keyword} {te : TED} {ta tk : TAD} {pos apos : Pos} {ks : List Str}
theorem je_meth0 (mo : MethOk X n Γ) (hr : Rb n X.A) (tkk : Takes X W) (he : PE X o (LE X.K te W)) (hbase : attributeBase o m X.env (eval o X.env) = eval o X.env) (hline : (apos.endLine == pos.line) = true) :
    PE X (.Call (.Attribute o m apos) [] [] pos) (LE X.K (tMethD Γ m 0 [] te tNilD tNilD) W) := by
  refine ⟨fun pins s σv H Qv I ⟨σ, G, Q, E, rs, rh, h, pv, px⟩ => ?_⟩
  refine meth_at hbase rfl hline (thn (he.run pins s σv H (fun v H1 => ∃ a c fs i dv G1, v = .ref a ∧ Tk X.K H H1 ∧ RH X.K G1 H1 ∧ G1 a = some (.ins c fs) ∧ T.meth c m 0 [] = some (i, dv) ∧ fs.lookup m = none ∧ Γ i (.ref a :: dv) G1 Q E) I ?_) fun u s1 ⟨v, H1, I1, rv, a, c, fs, i, dv, G1, ev, k1, rh1, e1, e2, l, q⟩ => ?_)
  · refine ⟨σ, G, _, E, rs, rh, h, fun x v G1 H1 k1 rx rh1 q1 => ?_, px⟩
    cases x with
    | ref a =>
      cases rx
      obtain ⟨c, fs, i, dv, e1, e2, l, _, _, q⟩ := q1
      exact ⟨a, c, fs, i, dv, G1, rfl, k1, rh1, e1, e2, l, q⟩
    | _ => exact q1.elim
  · subst ev
    obtain rfl : u = Value.ref a := rv
    obtain ⟨cl, f, fd, ps, hm, F, hb⟩ := mo c m 0 [] i dv e2
    obtain ⟨dx, gs, e3, rf⟩ := rh1 a _ e1
    refine getmeth_ok I1 e3 cl hm (rf.lookN l) ?_
    exact PySem.W.callWith_K0 (first := [.ref a]) I1.kIn hm.kp (go_g (m := 1) (us := [.ref a]) (vs := [.ref a]) (ks := []) (xs := [.ref a]) (zs := []) (ys := []) (ws := []) (σ := σ) F hr hb tkk I1 (.cons rfl .nil) .nil (.one (.ref a)) .nil rh1 rfl rfl q k1 pv px)
theorem je_meth (mo : MethOk X n Γ) (hr : Rb n X.A) (tkk : Takes X W) (he : PE X o (LE X.K te W)) (ha : PA X (e :: es) (LA X.K ta W)) (hbase : attributeBase o m X.env (eval o X.env) = eval o X.env) (hline : (apos.endLine == pos.line) = true)
    (hform : methodCallForm ((e :: es).length + ([] : List Keyword).length) (backTo pos (starEach (e :: es) X.env)) (backToKw pos (keywordEach [] X.env)) = true)
    (hst : starEach (e :: es) X.env = (false, eval e X.env) :: starEach es X.env) (hpl : (backTo pos (starEach es X.env)).any (·.1) = false) :
    PE X (.Call (.Attribute o m apos) (e :: es) [] pos) (LE X.K (tMethD Γ m (es.length + 1) [] te ta tNilD) W) := by
  refine ⟨fun pins s σv H Qv I ⟨σ, G, Q, E, rs, rh, h, pv, px⟩ => ?_⟩
  refine meth_at hbase hform hline (thn (he.run pins s σv H (fun v H1 => ∃ a c fs i dv G1, v = .ref a ∧ Tk X.K H H1 ∧ RH X.K G1 H1 ∧ G1 a = some (.ins c fs) ∧ T.meth c m (es.length + 1) [] = some (i, dv) ∧ fs.lookup m = none ∧
      ta σ G1 (fun xs G2 => xs.length = es.length + 1 ∧ Γ i (.ref a :: (xs ++ dv)) G2 Q E) E) I ?_) fun u s1 ⟨v, H1, I1, rv, a, c, fs, i, dv, G1, ev, k1, rh1, e1, e2, l, q⟩ => ?_)
  · refine ⟨σ, G, _, E, rs, rh, h, fun x v G1 H1 k1 rx rh1 q1 => ?_, px⟩
    cases x with
    | ref a =>
      cases rx
      obtain ⟨c, fs, i, dv, e1, e2, l, q⟩ := q1
      refine ⟨a, c, fs, i, dv, G1, rfl, k1, rh1, e1, e2, l, ?_⟩
      have e3 : (fun xs G2 => tNilD σ G2 (fun zs G3 => xs.length = es.length + 1 ∧ zs.length = ([] : List Str).length ∧ Γ i (.ref a :: (xs ++ (zs ++ dv))) G3 Q E) E) = (fun xs G2 => xs.length = es.length + 1 ∧ Γ i (.ref a :: (xs ++ dv)) G2 Q E) := by
        funext xs G2
        simp [tNilD]
      rw [e3] at q
      exact q
    | _ => exact q1.elim
  · subst ev
    obtain rfl : u = Value.ref a := rv
    obtain ⟨cl, f, fd, ps, hm, F, hb⟩ := mo c m _ [] i dv e2
    obtain ⟨dx, gs, e3, rf⟩ := rh1 a _ e1
    refine getmeth_ok I1 e3 cl hm (rf.lookN l) ?_
    refine PySem.W.callWith_K (first := [.ref a]) (h₀ := X.base) I.ok.mod.kin hm.kp (thn (ha.run pos pins s1 σv H1 (fun vs H2 => ∃ xs G2, Tk X.K H1 H2 ∧ RDs X.K H2 xs vs ∧ RH X.K G2 H2 ∧ xs.length = es.length + 1 ∧ Γ i (.ref a :: (xs ++ dv)) G2 Q E) I1 ?_) fun us s2 ⟨vs, H2, I2, r, xs, G2, k2, rx, rh2, l1, q2⟩ => ⟨I2.kIn, ?_⟩) hst hpl
    · exact ⟨σ, G1, _, E, rs.keep k1, rh1, q, fun xs vs G2 H2 k2 rx rh2 q2 => ⟨xs, G2, k2, rx, rh2, q2⟩, px.keep k1⟩
    · exact go_g (m := es.length + 1 + 1) (us := .ref a :: us) (vs := .ref a :: vs) (ks := []) (xs := .ref a :: xs) (zs := []) (ys := []) (ws := []) (σ := σ) F hr hb tkk I2 (.cons rfl r) .nil (.cons (.ref a) rx) .nil rh2 (by simp [l1]) rfl q2 (k1.trans k2) pv px
theorem je_methK (mo : MethOk X n Γ) (hr : Rb n X.A) (tkk : Takes X W) (he : PE X o (LE X.K te W)) (ha : PA X (e :: es) (LA X.K ta W)) (hkw : PK X kws (LA X.K tk W)) (hbase : attributeBase o m X.env (eval o X.env) = eval o X.env) (hline : (apos.endLine == pos.line) = true)
    (hform : methodCallForm ((e :: es).length + kws.length) (backTo pos (starEach (e :: es) X.env)) (backToKw pos (keywordEach kws X.env)) = true)
    (hall : (backToKw pos (keywordEach kws X.env)).all (·.1.isSome) = true) (hks : (backToKw pos (keywordEach kws X.env)).filterMap (·.1) = ks)
    (hst : starEach (e :: es) X.env = (false, eval e X.env) :: starEach es X.env) (hpl : ((backTo pos (starEach (e :: es) X.env)).any (·.1) || (backToKw pos (keywordEach kws X.env)).any (·.1.isNone)) = false) :
    PE X (.Call (.Attribute o m apos) (e :: es) kws pos) (LE X.K (tMethD Γ m (es.length + 1) ks te ta tk) W) := by
  refine ⟨fun pins s σv H Qv I ⟨σ, G, Q, E, rs, rh, h, pv, px⟩ => ?_⟩
  refine meth_at hbase hform hline (thn (he.run pins s σv H (fun v H1 => ∃ a c fs i dv G1, v = .ref a ∧ Tk X.K H H1 ∧ RH X.K G1 H1 ∧ G1 a = some (.ins c fs) ∧ T.meth c m (es.length + 1) ks = some (i, dv) ∧ fs.lookup m = none ∧
      ta σ G1 (fun xs G2 => tk σ G2 (fun zs G3 => xs.length = es.length + 1 ∧ zs.length = ks.length ∧ Γ i (.ref a :: (xs ++ (zs ++ dv))) G3 Q E) E) E) I ?_) fun u s1 ⟨v, H1, I1, rv, a, c, fs, i, dv, G1, ev, k1, rh1, e1, e2, l, q⟩ => ?_)
  · refine ⟨σ, G, _, E, rs, rh, h, fun x v G1 H1 k1 rx rh1 q1 => ?_, px⟩
    cases x with
    | ref a =>
      cases rx
      obtain ⟨c, fs, i, dv, e1, e2, l, q⟩ := q1
      exact ⟨a, c, fs, i, dv, G1, rfl, k1, rh1, e1, e2, l, q⟩
    | _ => exact q1.elim
  · subst ev
    obtain rfl : u = Value.ref a := rv
    obtain ⟨cl, f, fd, ps, hm, F, hb⟩ := mo c m _ ks i dv e2
    obtain ⟨dx, gs, e3, rf⟩ := rh1 a _ e1
    refine getmeth_ok I1 e3 cl hm (rf.lookN l) ?_
    refine PySem.W.callWith_KW (first := [.ref a]) (h₀ := X.base) I.ok.mod.kin hm.kp hall (thn (ha.run pos pins s1 σv H1 (fun vs H2 => ∃ xs G2, Tk X.K H1 H2 ∧ RDs X.K H2 xs vs ∧ RH X.K G2 H2 ∧ tk σ G2 (fun zs G3 => xs.length = es.length + 1 ∧ zs.length = ks.length ∧ Γ i (.ref a :: (xs ++ (zs ++ dv))) G3 Q E) E) I1 ?_) fun us s2 ⟨vs, H2, I2, r, xs, G2, k2, rx, rh2, q2⟩ => ?_) hpl hst
    · exact ⟨σ, G1, _, E, rs.keep k1, rh1, q, fun xs vs G2 H2 k2 rx rh2 q2 => ⟨xs, G2, k2, rx, rh2, q2⟩, px.keep k1⟩
    · refine thn (hkw.run pos pins s2 σv H2 (fun ys H3 => ∃ zs G3, Tk X.K H2 H3 ∧ RDs X.K H3 zs ys ∧ RH X.K G3 H3 ∧ xs.length = es.length + 1 ∧ zs.length = ks.length ∧ Γ i (.ref a :: (xs ++ (zs ++ dv))) G3 Q E) I2 ?_) fun ws s3 ⟨ys, H3, I3, rz, zs, G3, k3, rzs, rh3, l1, l2, q3⟩ => ⟨I3.kIn, ?_⟩
      · exact ⟨σ, G2, _, E, rs.keep (k1.trans k2), rh2, q2, fun zs ys G3 H3 k3 rzs rh3 q3 => ⟨zs, G3, k3, rzs, rh3, q3⟩, px.keep (k1.trans k2)⟩
      · rw [hks]
        exact go_g (m := es.length + 1 + 1) (us := .ref a :: us) (vs := .ref a :: vs) (xs := .ref a :: xs) (σ := σ) F hr hb tkk I3 (.cons rfl r) rz (.cons (.ref a) (rx.keep k3)) rzs rh3 (by simp [l1]) l2 q3 ((k1.trans k2).trans k3) pv px
end
/-! ### C(..) -/
/-- a class's name with so many values: its number, its __init__ -/
def MakeOk (X : Cx) (n : Nat) (Γ : Nat → SpD) : Prop := ∀ x na ks c i dv, T.make x na ks = some (c, i, dv) → X.mg x = some (.ref (He.ga X.K (T.cn c))) ∧
  ∃ f fd ps, Mk X.K (He.ga X.K (T.cn c)) f ∧ FnG X.prog X.w X.K X.mg X.base n f fd ps (LS X.K (Γ i)) ∧ ∀ H, ∃ dvs, RDs X.K H dv dvs ∧ BdOk X.K fd ps (na + 1) ks dvs
/-- the new instance at p -/
def spMake (sp : SpD) (c : Nat) : SpD := fun xs G Q E => ∀ p, G p = none → sp (.ref p :: xs) (up G p (.ins c [])) (fun d G' => match d with
  | .non => Q (.ref p) G'
  | _ => False) E
section
variable {X : Cx} {W : WX} {n m : Nat} {f C : Addr} {fd : FuncData} {ps ks : List Str} {sp : SpD} {dv : List D} {x : Str} {e : Expr} {es : List Expr} {kws : List Keyword} {ta tk : TAD} {pos p : Pos} {c : Nat}
theorem go_make {pins : List (Addr × Obj)} {σ : St} {σv : L2.St} {H H1 : Hp} {G : Hd} {s : Shared} {Q : KD} {E : XD} {Qv : VK} {us ws : List Value} {xs zs : List D} {vs ys : List V}
    (M : Mk X.K (He.ga X.K (T.cn c)) f) (F : FnG X.prog X.w X.K X.mg X.base n f fd ps (LS X.K sp)) (hr : Rb n X.A) (hb : ∀ H, ∃ dvs, RDs X.K H dv dvs ∧ BdOk X.K fd ps (m + 1) ks dvs) (tk : Takes X W) (I : Inv X pins σv H1 s) (r : Vals vs us) (rz : Vals ys ws)
    (rx : RDs X.K H1 xs vs) (rzs : RDs X.K H1 zs ys) (rh : RH X.K G H1) (hm : xs.length = m) (hk : zs.length = ks.length) (h : spMake sp c (xs ++ (zs ++ dv)) G Q E) (kk : Tk X.K H H1) (pv : PV X.K H Q Qv) (px : PX X.K H σv E W) :
    wpAny (model X.prog X.w) X.A (call (.ref (He.ga X.K (T.cn c))) us (ks.zip ws)) (EP X pins σv Qv) X.xe s := by
  obtain ⟨dvs, rd, ds, rds, hbd⟩ := hb (L2.upd (L2.upd H1 s.heap.objs.size (.own (s.heap.objs.size + 1))) (s.heap.objs.size + 1) (.ins (He.ga X.K (T.cn c)) s.heap.objs.size []))
  have f0 : H1 s.heap.objs.size = none := I.hok.fresh (Nat.le_refl _)
  have f1 : H1 (s.heap.objs.size + 1) = none := I.hok.fresh (Nat.le_succ _)
  have ne : s.heap.objs.size + 1 ≠ s.heap.objs.size := Nat.succ_ne_self _
  have f2 : (L2.upd H1 s.heap.objs.size (.own (s.heap.objs.size + 1))) (s.heap.objs.size + 1) = none := by rw [upd_ne ne]; exact f1
  have t1 : Tk X.K H1 (L2.upd H1 s.heap.objs.size (.own (s.heap.objs.size + 1))) := Tk.new f0
  have t2 := Tk.new (K := X.K) (o := .ins (He.ga X.K (T.cn c)) s.heap.objs.size []) f2
  have rh1 : RH X.K G (L2.upd H1 s.heap.objs.size (.own (s.heap.objs.size + 1))) := rh.skip f0
  have rh2 : RH X.K (up G (s.heap.objs.size + 1) (.ins c [])) (L2.upd (L2.upd H1 s.heap.objs.size (.own (s.heap.objs.size + 1))) (s.heap.objs.size + 1) (.ins (He.ga X.K (T.cn c)) s.heap.objs.size [])) :=
    rh1.upd (by rw [f2]; trivial) ⟨_, [], upd_same, rfl, .nil⟩
  have hq := h (s.heap.objs.size + 1) (rh.none f1)
  have I2 := Inv.made (C := He.ga X.K (T.cn c)) I
  have rx2 := rx.keep (t1.trans t2)
  have rzs2 := rzs.keep (t1.trans t2)
  have r2 : Vals (V.ref (s.heap.objs.size + 1) :: (vs ++ (ys ++ dvs))) (Value.ref (s.heap.objs.size + 1) :: (us ++ (ws ++ ds))) := .cons rfl (r.append (rz.append rds))
  have hl : us.length = m := by rw [← r.length, ← rx.len]; exact hm
  refine wpAny_call (make_map (f := f) I.kIn M.makes M.init (beq_iff_eq.mp M.fn) (codeAny_mono (F.run _ X.stack _ _ ⟨Value.ref (s.heap.objs.size + 1) :: us, ks.zip ws⟩ (Value.ref (s.heap.objs.size + 1) :: (us ++ (ws ++ ds))) _ (fun v H2 => v = .non ∧ Qv (.ref (s.heap.objs.size + 1)) H2) (fun cls d H' => W cls d σv H')
    (hr.make (He.ga X.K (T.cn c)) us (ks.zip ws)) (I2.env0.make (He.ga X.K (T.cn c)) us (ks.zip ws)) (hbd _ (Value.ref (s.heap.objs.size + 1) :: us) ws I2.kIn (by simp [hl]) (by rw [← rz.length, ← rzs.len]; exact hk)) r2 ?_) fun q s' hq' => ?_))
  · refine ⟨_, _, _, E, .cons (.ref _) (rx2.app (rzs2.app rd)), rh2, hq, fun d v G' H' k' rv rh' q' => ?_, fun c' fs cls dd G' H' k1 rx1 rhx e1 => px c' fs cls dd G' H' ((kk.trans (t1.trans t2)).trans k1) rx1 rhx e1⟩
    cases d with
    | non => cases rv; exact ⟨rfl, pv _ _ G' H' ((kk.trans (t1.trans t2)).trans k') (.ref _) rh' q'⟩
    | _ => exact q'.elim
  · cases q with
    | error e => exact tk e s' (XE.of_call I2 (fun _ _ _ z => z) hq')
    | ok fl =>
      cases fl with
      | ret u =>
        obtain ⟨v, H', I3, rv, ev, q3⟩ := I2.after hq'
        subst ev
        exact ⟨rv, ⟨V.ref (s.heap.objs.size + 1), H', I3, rfl, q3⟩⟩
      | next => exact False.elim hq'
      | brk => exact False.elim hq'
      | cont => exact False.elim hq'
theorem je_make (M : Mk X.K (He.ga X.K (T.cn c)) f) (F : FnG X.prog X.w X.K X.mg X.base n f fd ps (LS X.K sp)) (hr : Rb n X.A) (hb : ∀ H, ∃ dvs, RDs X.K H dv dvs ∧ BdOk X.K fd ps (m + 1) [] dvs) (tk : Takes X W) (hg : Gl X x) (hm : X.mg x = some (.ref (He.ga X.K (T.cn c))))
    (ha : PA X (e :: es) (LA X.K ta W)) (hdb : (x == ("__debug__" : Str)) = false) (he : starEach (e :: es) X.env = (false, eval e X.env) :: starEach es X.env) (hpl : (backTo pos (starEach es X.env)).any (·.1) = false) :
    PE X (.Call (.Name x p) (e :: es) [] pos) (LE X.K (tCallD (spMake sp c) dv m 0 ta tNilD) W) := by
  refine ⟨fun pins s σv H Qv I ⟨σ, G, Q, E, rs, rh, h, pv, px⟩ => ?_⟩
  refine wpAny_Call_Name_kw (ld_glob I hg hm ?_ hdb)
  refine PySem.W.callWith_K (h₀ := X.base) I.ok.mod.kin M.kp (thn (ha.run pos pins s σv H (fun vs H1 => ∃ xs G1, Tk X.K H H1 ∧ RDs X.K H1 xs vs ∧ RH X.K G1 H1 ∧ xs.length = m ∧ spMake sp c (xs ++ ([] ++ dv)) G1 Q E) I ?_) fun us s1 ⟨vs, H1, I1, r, xs, G1, k1, rx, rh1, l1, q⟩ => ⟨I1.kIn, ?_⟩) he hpl
  · exact ⟨σ, G, _, E, rs, rh, h, fun xs vs G1 H1 k1 rx rh1 q1 => ⟨xs, G1, k1, rx, rh1, q1.1, q1.2.2⟩, px⟩
  · exact go_make (ks := []) (zs := []) (ys := []) (ws := []) (σ := σ) M F hr hb tk I1 r .nil rx .nil rh1 l1 rfl q k1 pv px
theorem je_make0 (M : Mk X.K (He.ga X.K (T.cn c)) f) (F : FnG X.prog X.w X.K X.mg X.base n f fd ps (LS X.K sp)) (hr : Rb n X.A) (hb : ∀ H, ∃ dvs, RDs X.K H dv dvs ∧ BdOk X.K fd ps (m + 1) [] dvs) (tk : Takes X W) (hg : Gl X x) (hm : X.mg x = some (.ref (He.ga X.K (T.cn c))))
    (hdb : (x == ("__debug__" : Str)) = false) : PE X (.Call (.Name x p) [] [] pos) (LE X.K (tCallD (spMake sp c) dv m 0 tNilD tNilD) W) := by
  refine ⟨fun pins s σv H Qv I ⟨σ, G, Q, E, rs, rh, h, pv, px⟩ => ?_⟩
  obtain ⟨l1, _, q⟩ := h
  refine wpAny_Call_Name_kw (ld_glob I hg hm ?_ hdb)
  exact PySem.W.callWith_K0 I.kIn M.kp (go_make (us := []) (vs := []) (ks := []) (xs := []) (zs := []) (ys := []) (ws := []) (σ := σ) M F hr hb tk I .nil .nil .nil .nil rh l1 rfl q (Tk.refl H) pv px)
theorem je_makeK (M : Mk X.K (He.ga X.K (T.cn c)) f) (F : FnG X.prog X.w X.K X.mg X.base n f fd ps (LS X.K sp)) (hr : Rb n X.A) (hb : ∀ H, ∃ dvs, RDs X.K H dv dvs ∧ BdOk X.K fd ps (m + 1) ks dvs) (tkk : Takes X W) (hg : Gl X x) (hm : X.mg x = some (.ref (He.ga X.K (T.cn c))))
    (ha : PA X (e :: es) (LA X.K ta W)) (hkw : PK X kws (LA X.K tk W)) (hall : (backToKw pos (keywordEach kws X.env)).all (·.1.isSome) = true) (hks : (backToKw pos (keywordEach kws X.env)).filterMap (·.1) = ks)
    (hdb : (x == ("__debug__" : Str)) = false) (he : starEach (e :: es) X.env = (false, eval e X.env) :: starEach es X.env)
    (hpl : ((backTo pos (starEach (e :: es) X.env)).any (·.1) || (backToKw pos (keywordEach kws X.env)).any (·.1.isNone)) = false) :
    PE X (.Call (.Name x p) (e :: es) kws pos) (LE X.K (tCallD (spMake sp c) dv m ks.length ta tk) W) := by
  refine ⟨fun pins s σv H Qv I ⟨σ, G, Q, E, rs, rh, h, pv, px⟩ => ?_⟩
  refine wpAny_Call_Name_kw (ld_glob I hg hm ?_ hdb)
  refine PySem.W.callWith_KW (h₀ := X.base) I.ok.mod.kin M.kp hall (thn (ha.run pos pins s σv H (fun vs H1 => ∃ xs G1, Tk X.K H H1 ∧ RDs X.K H1 xs vs ∧ RH X.K G1 H1 ∧ tk σ G1 (fun zs G2 => xs.length = m ∧ zs.length = ks.length ∧ spMake sp c (xs ++ (zs ++ dv)) G2 Q E) E) I ?_) fun us s1 ⟨vs, H1, I1, r, xs, G1, k1, rx, rh1, q⟩ => ?_) hpl he
  · exact ⟨σ, G, _, E, rs, rh, h, fun xs vs G1 H1 k1 rx rh1 q1 => ⟨xs, G1, k1, rx, rh1, q1⟩, px⟩
  · refine thn (hkw.run pos pins s1 σv H1 (fun ys H2 => ∃ zs G2, Tk X.K H1 H2 ∧ RDs X.K H2 zs ys ∧ RH X.K G2 H2 ∧ xs.length = m ∧ zs.length = ks.length ∧ spMake sp c (xs ++ (zs ++ dv)) G2 Q E) I1 ?_) fun ws s2 ⟨ys, H2, I2, rz, zs, G2, k2, rzs, rh2, l1, l2, q2⟩ => ⟨I2.kIn, ?_⟩
    · exact ⟨σ, G1, _, E, rs.keep k1, rh1, q, fun zs ys G2 H2 k2 rzs rh2 q2 => ⟨zs, G2, k2, rzs, rh2, q2⟩, px.keep k1⟩
    · rw [hks]
      exact go_make (σ := σ) M F hr hb tkk I2 r rz (rx.keep k2) rzs rh2 l1 l2 q2 (k1.trans k2) pv px
end
end Y

/-! Y6: built-in functions and types called; isinstance; methods of built-in types. -/
namespace Y
open PySem PySem.Spec PyProof.Rows L2
variable [T : Tab]

def CallD (K : PySem.W.Frag) (r : List V → Hp → VK → Prop) (q : List D → Hd → KD → Prop) : Prop :=
  ∀ (H : Hp) (G : Hd) (xs : List D) (vs : List V) (Q : KD) (Qv : VK), RDs K H xs vs → RH K G H → q xs G Q → PV K H Q Qv → r vs H Qv
def tBltD (q : List D → Hd → KD → Prop) (ta : TAD) : TED := fun σ G Q E => ta σ G (fun xs G1 => q xs G1 Q) E
section
variable {X : Cx} {W : WX} {x : Str} {p pos : Pos} {e : Expr} {es : List Expr} {ta : TAD} {id T' : String} {r : List V → Hp → VK → Prop} {q : List D → Hd → KD → Prop}
theorem blt_imp {K : PySem.W.Frag} (hd : CallD K r q) : ∀ σ H Q, LE K (tBltD q ta) W σ H Q → tCB r (LA K ta W) σ H Q := fun σv H Qv ⟨σ, G, Q, E, rs, rh, h, pv, px⟩ =>
  ⟨σ, G, _, E, rs, rh, h, fun xs vs G1 H1 k1 rx rh1 q1 => hd H1 G1 xs vs Q Qv rx rh1 q1 (pv.keep k1), px⟩
theorem je_bltB (hc : CallR X (.builtin id) r) (hd : CallD X.K r q) (hg : Gl X x) (hm : X.mg x = none) (hv : bootBuiltins x = some (.builtin id)) (ha : PA X (e :: es) (LA X.K ta W)) (hn : x ≠ "__name__") (hdb : (x == ("__debug__" : Str)) = false)
    (he : starEach (e :: es) X.env = (false, eval e X.env) :: starEach es X.env) (hpl : (backTo pos (starEach es X.env)).any (·.1) = false) : PE X (.Call (.Name x p) (e :: es) [] pos) (LE X.K (tBltD q ta) W) :=
  PE.imp (pe_callB hc hg hm hv ha hn hdb he hpl) (blt_imp hd)
theorem je_bltT (hc : CallR X (.type T') r) (hd : CallD X.K r q) (hg : Gl X x) (hm : X.mg x = none) (hv : bootBuiltins x = some (.type T')) (ha : PA X (e :: es) (LA X.K ta W)) (hn : x ≠ "__name__") (hdb : (x == ("__debug__" : Str)) = false)
    (he : starEach (e :: es) X.env = (false, eval e X.env) :: starEach es X.env) (hpl : (backTo pos (starEach es X.env)).any (·.1) = false) : PE X (.Call (.Name x p) (e :: es) [] pos) (LE X.K (tBltD q ta) W) :=
  PE.imp (pe_callTy hc hg hm hv ha hn hdb he hpl) (blt_imp hd)
end
section
variable {K : PySem.W.Frag} {H : Hp}
theorem RDs.un {d : D} {vs : List V} (r : RDs K H [d] vs) : ∃ v, vs = [v] ∧ RD K H d v := by
  cases r with
  | cons r t => cases t; exact ⟨_, rfl, r⟩
theorem RDs.duo {d e : D} {vs : List V} (r : RDs K H [d, e] vs) : ∃ v u, vs = [v, u] ∧ RD K H d v ∧ RD K H e u := by
  cases r with
  | cons r t =>
    cases t with
    | cons r2 t => cases t; exact ⟨_, _, rfl, r, r2⟩
theorem RDs.intsV {ns : List Int} {vs : List V} (r : RDs K H (ns.map D.int) vs) : vs = ns.map V.int := by
  induction ns generalizing vs with
  | nil => cases r; rfl
  | cons n ns ih =>
    cases r with
    | cons r t => cases r; rw [ih t]; rfl
theorem RDs.blsV {ns : List Bool} {vs : List V} (r : RDs K H (ns.map D.bl) vs) : vs = ns.map V.bl := by
  induction ns generalizing vs with
  | nil => cases r; rfl
  | cons n ns ih =>
    cases r with
    | cons r t => cases r; rw [ih t]; rfl
theorem RDs.strsV {ns : List Str} {vs : List V} (r : RDs K H (ns.map D.str) vs) : vs = ns.map V.str := by
  induction ns generalizing vs with
  | nil => cases r; rfl
  | cons n ns ih =>
    cases r with
    | cons r t => cases r; rw [ih t]; rfl
end
/-! ### len -/
def oLen (xs : List D) (G : Hd) (Q : KD) : Prop := match xs with
  | [.str z] => z.length ≤ sizeLine ∧ Q (.int z.length) G
  | [.tup ds] => Q (.int ds.length) G
  | [.rol ds] => Q (.int ds.length) G
  | [.ref a] => ∃ ds, G a = some (.lst ds) ∧ Q (.int ds.length) G
  | _ => False
def vLen (K : PySem.W.Frag) : List V → Hp → VK → Prop := fun xs H Q => ∃ x n, xs = [x] ∧ LenV K x H n ∧ Q (.int n) H
theorem oLen_ok {K : PySem.W.Frag} : CallD K (vLen K) oLen := by
  intro H G xs vs Q Qv rx rh h pv
  match xs, h with
  | [.str z], h => obtain ⟨v, rfl, r⟩ := rx.un; cases r; exact ⟨_, _, rfl, ⟨h.1, rfl⟩, pv.here (.int _) rh h.2⟩
  | [.tup ds], h =>
    obtain ⟨v, rfl, r⟩ := rx.un
    cases r with
    | tup s r => exact ⟨_, _, rfl, .inr ⟨_, s, rfl⟩, by rw [← r.len]; exact pv.here (.int _) rh h⟩
  | [.rol ds], h =>
    obtain ⟨v, rfl, r⟩ := rx.un
    cases r with
    | rol s r => exact ⟨_, _, rfl, .inl ⟨_, s.seq, rfl⟩, by rw [← r.len]; exact pv.here (.int _) rh h⟩
  | [.ref a], h =>
    obtain ⟨v, rfl, r⟩ := rx.un
    cases r
    obtain ⟨ds, e, h⟩ := h
    obtain ⟨us, f, r⟩ := rh a _ e
    exact ⟨_, _, rfl, .inl ⟨us, SqL.of f, rfl⟩, by rw [← r.len]; exact pv.here (.int _) rh h⟩
/-! ### int, str -/
def oInt (xs : List D) (G : Hd) (Q : KD) : Prop := match xs with
  | [.int i] => Q (.int i) G
  | [.bl k] => Q (.int (if k then 1 else 0)) G
  | [.str a] => ∃ n, PySem.intText? a = some n ∧ a.length ≤ 640 ∧ Q (.int n) G
  | _ => False
def vInt : List V → Hp → VK → Prop := fun xs H Q => ((∃ i, xs = [.int i] ∧ Q (.int i) H) ∨ ∃ k, xs = [.bl k] ∧ Q (.int (if k then 1 else 0)) H) ∨ ∃ a n, xs = [.str a] ∧ PySem.intText? a = some n ∧ a.length ≤ 640 ∧ Q (.int n) H
theorem call_vInt {X : Cx} : CallR X (.type "int") vInt := by
  intro pins s σ H xs us Q I r h
  rcases h with h | ⟨a, n, e, h1, h2, h3⟩
  · exact call_int1 pins s σ H xs us Q I r h
  · exact call_int_str pins s σ H xs us Q I r ⟨a, n, e, h1, h2, h3⟩
theorem oInt_ok {K : PySem.W.Frag} : CallD K vInt oInt := by
  intro H G xs vs Q Qv rx rh h pv
  match xs, h with
  | [.int i], h => obtain ⟨v, rfl, r⟩ := rx.un; cases r; exact .inl (.inl ⟨i, rfl, pv.here (.int _) rh h⟩)
  | [.bl k], h => obtain ⟨v, rfl, r⟩ := rx.un; cases r; exact .inl (.inr ⟨k, rfl, pv.here (.int _) rh h⟩)
  | [.str a], h => obtain ⟨v, rfl, r⟩ := rx.un; cases r; obtain ⟨n, h1, h2, h3⟩ := h; exact .inr ⟨a, n, rfl, h1, h2, pv.here (.int _) rh h3⟩
def oStr (xs : List D) (G : Hd) (Q : KD) : Prop := match xs with
  | [.int i] => i.natAbs.log2 < 1920 ∧ Q (.str (toString i)) G
  | [.str a] => Q (.str a) G
  | _ => False
def vStr : List V → Hp → VK → Prop := fun xs H Q => (∃ i, xs = [.int i] ∧ i.natAbs.log2 < 1920 ∧ Q (.str (toString i)) H) ∨ ∃ a, xs = [.str a] ∧ Q (.str a) H
theorem call_vStr {X : Cx} : CallR X (.type "str") vStr := call_str_int.or SkE.call_str_str
theorem oStr_ok {K : PySem.W.Frag} : CallD K vStr oStr := by
  intro H G xs vs Q Qv rx rh h pv
  match xs, h with
  | [.int i], h => obtain ⟨v, rfl, r⟩ := rx.un; cases r; exact .inl ⟨i, rfl, h.1, pv.here (.str _) rh h.2⟩
  | [.str a], h => obtain ⟨v, rfl, r⟩ := rx.un; cases r; exact .inr ⟨a, rfl, pv.here (.str _) rh h⟩
/-! ### max, min, sum, any, all, ord -/
def oMax (xs : List D) (G : Hd) (Q : KD) : Prop := match xs with
  | [.int i, .int j] => Q (.int (if j > i then j else i)) G
  | [.ref a] => ∃ ns : List Int, G a = some (.lst (ns.map D.int)) ∧ 0 < ns.length ∧ ∀ m, m ∈ ns → (∀ y, y ∈ ns → y ≤ m) → Q (.int m) G
  | _ => False
def vMax (K : PySem.W.Frag) : List V → Hp → VK → Prop := fun xs H Q => (∃ i j, xs = [.int i, .int j] ∧ Q (.int (if j > i then j else i)) H) ∨ rMax K xs H Q
theorem call_vMax {X : Cx} (hc : X.calm = true) : CallR X (.builtin "max") (vMax X.K) := (call_max2 hc).or (cr_max hc)
theorem oMax_ok {K : PySem.W.Frag} : CallD K (vMax K) oMax := by
  intro H G xs vs Q Qv rx rh h pv
  match xs, h with
  | [.int i, .int j], h => obtain ⟨v, u, rfl, r, r2⟩ := rx.duo; cases r; cases r2; exact .inl ⟨i, j, rfl, pv.here (.int _) rh h⟩
  | [.ref a], h =>
    obtain ⟨v, rfl, r⟩ := rx.un
    cases r
    obtain ⟨ns, e, h1, h2⟩ := h
    obtain ⟨us, f, r⟩ := rh a _ e
    rw [r.intsV] at f
    exact .inr ⟨a, ns, rfl, SqL.of f, h1, fun m m1 m2 => pv.here (.int _) rh (h2 m m1 m2)⟩
def oMin (xs : List D) (G : Hd) (Q : KD) : Prop := match xs with
  | [.int i, .int j] => Q (.int (if j < i then j else i)) G
  | [.ref a] => ∃ ns : List Int, G a = some (.lst (ns.map D.int)) ∧ 0 < ns.length ∧ ∀ m, m ∈ ns → (∀ y, y ∈ ns → m ≤ y) → Q (.int m) G
  | _ => False
def vMin (K : PySem.W.Frag) : List V → Hp → VK → Prop := fun xs H Q => (∃ i j, xs = [.int i, .int j] ∧ Q (.int (if j < i then j else i)) H) ∨ rMin K xs H Q
theorem call_vMin {X : Cx} (hc : X.calm = true) : CallR X (.builtin "min") (vMin X.K) := (call_min2 hc).or (cr_min hc)
theorem oMin_ok {K : PySem.W.Frag} : CallD K (vMin K) oMin := by
  intro H G xs vs Q Qv rx rh h pv
  match xs, h with
  | [.int i, .int j], h => obtain ⟨v, u, rfl, r, r2⟩ := rx.duo; cases r; cases r2; exact .inl ⟨i, j, rfl, pv.here (.int _) rh h⟩
  | [.ref a], h =>
    obtain ⟨v, rfl, r⟩ := rx.un
    cases r
    obtain ⟨ns, e, h1, h2⟩ := h
    obtain ⟨us, f, r⟩ := rh a _ e
    rw [r.intsV] at f
    exact .inr ⟨a, ns, rfl, SqL.of f, h1, fun m m1 m2 => pv.here (.int _) rh (h2 m m1 m2)⟩
def oSum (xs : List D) (G : Hd) (Q : KD) : Prop := match xs with
  | [.ref a] => ∃ ns : List Int, G a = some (.lst (ns.map D.int)) ∧ Q (.int ns.sum) G
  | _ => False
theorem oSum_ok {K : PySem.W.Frag} : CallD K (rSum K) oSum := by
  intro H G xs vs Q Qv rx rh h pv
  match xs, h with
  | [.ref a], h =>
    obtain ⟨v, rfl, r⟩ := rx.un
    cases r
    obtain ⟨ns, e, h1⟩ := h
    obtain ⟨us, f, r⟩ := rh a _ e
    rw [r.intsV] at f
    exact ⟨a, ns, rfl, SqL.of f, pv.here (.int _) rh h1⟩
def oAny (xs : List D) (G : Hd) (Q : KD) : Prop := match xs with
  | [.ref a] => ∃ bs : List Bool, G a = some (.lst (bs.map D.bl)) ∧ Q (.bl (bs.any id)) G
  | _ => False
theorem oAny_ok {K : PySem.W.Frag} : CallD K (rAny K) oAny := by
  intro H G xs vs Q Qv rx rh h pv
  match xs, h with
  | [.ref a], h =>
    obtain ⟨v, rfl, r⟩ := rx.un
    cases r
    obtain ⟨ns, e, h1⟩ := h
    obtain ⟨us, f, r⟩ := rh a _ e
    rw [r.blsV] at f
    exact ⟨a, ns, rfl, SqL.of f, pv.here (.bl _) rh h1⟩
def oAll (xs : List D) (G : Hd) (Q : KD) : Prop := match xs with
  | [.ref a] => ∃ bs : List Bool, G a = some (.lst (bs.map D.bl)) ∧ Q (.bl (bs.all id)) G
  | _ => False
theorem oAll_ok {K : PySem.W.Frag} : CallD K (rAll K) oAll := by
  intro H G xs vs Q Qv rx rh h pv
  match xs, h with
  | [.ref a], h =>
    obtain ⟨v, rfl, r⟩ := rx.un
    cases r
    obtain ⟨ns, e, h1⟩ := h
    obtain ⟨us, f, r⟩ := rh a _ e
    rw [r.blsV] at f
    exact ⟨a, ns, rfl, SqL.of f, pv.here (.bl _) rh h1⟩
def oOrd (xs : List D) (G : Hd) (Q : KD) : Prop := match xs with
  | [.str z] => z.length = 1 ∧ Q (.int (z.cps.getD 0 0 : Nat)) G
  | _ => False
def vOrd : List V → Hp → VK → Prop := fun xs H Q => ∃ x, xs = [.str x] ∧ x.length = 1 ∧ Q (.int (x.cps.getD 0 0 : Nat)) H
theorem oOrd_ok {K : PySem.W.Frag} : CallD K vOrd oOrd := by
  intro H G xs vs Q Qv rx rh h pv
  match xs, h with
  | [.str z], h => obtain ⟨v, rfl, r⟩ := rx.un; cases r; exact ⟨z, rfl, h.1, pv.here (.int _) rh h.2⟩
/-! ### tuple, list -/
def oTup (xs : List D) (G : Hd) (Q : KD) : Prop := match xs with
  | [.ref a] => ∃ ds, G a = some (.lst ds) ∧ Q (.tup ds) G
  | [.rol ds] => Q (.tup ds) G
  | [.tup ds] => Q (.tup ds) G
  | _ => False
def vTup (K : PySem.W.Frag) : List V → Hp → VK → Prop := fun xs H Q => ∃ p ys, xs = [.ref p] ∧ ((SqL K H p ys ∧ ∀ l, H l = none → Q (.ref l) (upd H l (.tup ys))) ∨ (SqT K H p ys ∧ Q (.ref p) H))
theorem oTup_ok {K : PySem.W.Frag} : CallD K (vTup K) oTup := by
  intro H G xs vs Q Qv rx rh h pv
  match xs, h with
  | [.ref a], h =>
    obtain ⟨v, rfl, r⟩ := rx.un
    cases r
    obtain ⟨ds, e, h⟩ := h
    obtain ⟨us, f, r⟩ := rh a _ e
    exact ⟨a, us, rfl, .inl ⟨SqL.of f, fun p hp => pv _ _ G _ (Tk.new hp) (.tup (.inl (.inl upd_same)) (r.keep (Tk.new hp))) (rh.skip hp) h⟩⟩
  | [.rol ds], h =>
    obtain ⟨v, rfl, r⟩ := rx.un
    cases r with
    | rol s r => exact ⟨_, _, rfl, .inl ⟨s.seq, fun p hp => pv _ _ G _ (Tk.new hp) (.tup (.inl (.inl upd_same)) (r.keep (Tk.new hp))) (rh.skip hp) h⟩⟩
  | [.tup ds], h =>
    obtain ⟨v, rfl, r⟩ := rx.un
    cases r with
    | tup s r => exact ⟨_, _, rfl, .inr ⟨s, pv.here (.tup s r) rh h⟩⟩
def oList (xs : List D) (G : Hd) (Q : KD) : Prop := match xs with
  | [.ref a] => ∃ ds, G a = some (.lst ds) ∧ ∀ p, G p = none → Q (.ref p) (up G p (.lst ds))
  | [.rol ds] => ∀ p, G p = none → Q (.ref p) (up G p (.lst ds))
  | [.tup ds] => ∀ p, G p = none → Q (.ref p) (up G p (.lst ds))
  | _ => False
def vList (K : PySem.W.Frag) : List V → Hp → VK → Prop := fun xs H Q => ∃ p ys, xs = [.ref p] ∧ (SqL K H p ys ∨ SqT K H p ys) ∧ ∀ l, H l = none → Q (.ref l) (upd H l (.lst ys))
theorem oList_ok {K : PySem.W.Frag} : CallD K (vList K) oList := by
  intro H G xs vs Q Qv rx rh h pv
  match xs, h with
  | [.ref a], h =>
    obtain ⟨v, rfl, r⟩ := rx.un
    cases r
    obtain ⟨ds, e, h⟩ := h
    obtain ⟨us, f, r⟩ := rh a _ e
    exact ⟨a, us, rfl, .inl (SqL.of f), fun p hp => pv _ _ _ _ (Tk.new hp) (.ref p) (rh.new_lst hp r) (h p (rh.none hp))⟩
  | [.rol ds], h =>
    obtain ⟨v, rfl, r⟩ := rx.un
    cases r with
    | rol s r => exact ⟨_, _, rfl, .inl s.seq, fun p hp => pv _ _ _ _ (Tk.new hp) (.ref p) (rh.new_lst hp r) (h p (rh.none hp))⟩
  | [.tup ds], h =>
    obtain ⟨v, rfl, r⟩ := rx.un
    cases r with
    | tup s r => exact ⟨_, _, rfl, .inr s, fun p hp => pv _ _ _ _ (Tk.new hp) (.ref p) (rh.new_lst hp r) (h p (rh.none hp))⟩
/-! ### repr of nested data -/
def vRepr (K : PySem.W.Frag) : List V → Hp → VK → Prop := fun xs H Q => ∃ a p, xs = [.ref a] ∧ Dp K H (.ref a) p ∧ p.showable = true ∧ p.hasDict = false ∧ p.depth ≤ 60 ∧ p.shown.length ≤ sizeLine ∧ Q (.str p.shown) H
theorem call_vRepr {X : Cx} (hg : X.A.guards = some []) (hu : X.A.units + 65 < cLine) : CallR X (.builtin "repr") (vRepr X.K) := by
  intro pn s σ H xs us Q I r h
  obtain ⟨a, p, rfl, hd, h1, h2, h3, h4, q⟩ := h
  obtain ⟨u, rfl, ru⟩ := vals1 r
  obtain ⟨as, hr⟩ := Dp.reads I p (.ref a) u hd ru
  obtain rfl : u = Value.ref a := ru
  refine repr_of_reads' (h₀ := s.heap) hr h1 (fun z => by rw [h2] at z; cases z) hg (by omega) (fun _ _ e => e) (fun h' t tk hk => ?_) h4
  exact ⟨.str p.shown, H, I.kept hk, ⟨t, rfl⟩, q⟩
def oRepr (xs : List D) (G : Hd) (Q : KD) : Prop := match xs with
  | [.tup ds] => ∃ p, DP G (.tup ds) p ∧ p.showable = true ∧ p.hasDict = false ∧ p.depth ≤ 60 ∧ p.shown.length ≤ sizeLine ∧ Q (.str p.shown) G
  | [.ref a] => ∃ p, DP G (.ref a) p ∧ p.showable = true ∧ p.hasDict = false ∧ p.depth ≤ 60 ∧ p.shown.length ≤ sizeLine ∧ Q (.str p.shown) G
  | _ => False
theorem oRepr_ok {K : PySem.W.Frag} : CallD K (vRepr K) oRepr := by
  intro H G xs vs Q Qv rx rh h pv
  match xs, h with
  | [.tup ds], h =>
    obtain ⟨v, rfl, r⟩ := rx.un
    obtain ⟨p, hp, h1, h2, h3, h4, h5⟩ := h
    have e := hp.dp rh r
    cases r with
    | tup s r => exact ⟨_, p, rfl, e, h1, h2, h3, h4, pv.here (.str _) rh h5⟩
  | [.ref a], h =>
    obtain ⟨v, rfl, r⟩ := rx.un
    obtain ⟨p, hp, h1, h2, h3, h4, h5⟩ := h
    have e := hp.dp rh r
    cases r
    exact ⟨_, p, rfl, e, h1, h2, h3, h4, pv.here (.str _) rh h5⟩
/-! ### isinstance, a built-in type -/
def tyNm (x : D) (G : Hd) (k : String → Prop) : Prop := match x with
  | .non => k "NoneType"
  | .bl _ => k "bool"
  | .int _ => k "int"
  | .str _ => k "str"
  | .tup _ => k "tuple"
  | .rol _ => k "list"
  | .ref a => ∃ ds, G a = some (.lst ds) ∧ k "list"
  | .ty _ => False
def isiB (a b : String) : Bool := a == b || (a == "bool" && b == "int")
theorem isiB_ok : (["NoneType", "bool", "int", "str", "tuple", "list"].all fun a => ["bool", "int", "str", "tuple", "list"].all fun b => decide (kitB a b = some (isiB a b))) = true := by decide +kernel
theorem kit_of_isiB {a b : String} (ha : a ∈ ["NoneType", "bool", "int", "str", "tuple", "list"]) (hb : b ∈ ["bool", "int", "str", "tuple", "list"]) : kitB a b = some (isiB a b) :=
  of_decide_eq_true (List.all_eq_true.mp (List.all_eq_true.mp isiB_ok a ha) b hb)
theorem tyNm_ok {K : PySem.W.Frag} {H : Hp} {G : Hd} {x : D} {v : V} {k : String → Prop} (rx : RD K H x v) (rh : RH K G H) (h : tyNm x G k) : ∃ n, n ∈ ["NoneType", "bool", "int", "str", "tuple", "list"] ∧ TyX K H v (.type n) ∧ k n := by
  cases x with
  | non => cases rx; exact ⟨_, by simp, .base .non, h⟩
  | bl b => cases rx; exact ⟨_, by simp, .base (.bl b), h⟩
  | int i => cases rx; exact ⟨_, by simp, .base (.int i), h⟩
  | str z => cases rx; exact ⟨_, by simp, .base (.str z), h⟩
  | tup ds =>
    cases rx with
    | tup s r =>
      rcases s with (s | ⟨ob, s⟩) | ⟨o, its, n, e1, e2, _⟩
      · exact ⟨_, by simp, .base (.tup s), h⟩
      · exact ⟨_, by simp, .fTuple s, h⟩
      · exact ⟨_, by simp, .kTuple e1 e2, h⟩
  | rol ds =>
    cases rx with
    | rol s r =>
      rcases s with ⟨ob, s⟩ | ⟨o, its, n, e1, e2, _⟩
      · exact ⟨_, by simp, .base (.frz s), h⟩
      · exact ⟨_, by simp, .kList e1 e2, h⟩
  | ref a =>
    cases rx
    obtain ⟨ds, e, h⟩ := h
    obtain ⟨us, f, r⟩ := rh a _ e
    exact ⟨_, by simp, .base (.lst f), h⟩
  | ty n => exact h.elim
def tIsiD (n : String) (ta : TED) : TED := fun σ G Q E => ta σ G (fun x G1 => tyNm x G1 fun m => Q (.bl (isiB m n)) G1) E
theorem je_isi {X : Cx} {W : WX} {a : Expr} {ta : TED} {x : Str} {n : String} {p p2 pos : Pos} (hn : n ∈ ["bool", "int", "str", "tuple", "list"]) (hg : Gl X "isinstance") (hm : X.mg "isinstance" = none) (hgx : Gl X x) (hmx : X.mg x = none) (hvx : bootBuiltins x = some (.type n)) (hnx : x ≠ "__name__") (hdx : (x == ("__debug__" : Str)) = false)
    (ha : PE X a (LE X.K ta W)) (hs : starEach (a :: [.Name x p2]) X.env = (false, eval a X.env) :: starEach [.Name x p2] X.env) : PE X (.Call (.Name "isinstance" p) [a, .Name x p2] [] pos) (LE X.K (tIsiD n ta) W) := by
  have h1 : PE X (.Name x p2) (tC (.ty n)) := pe_bltn hgx hmx hvx rfl hnx hdx
  refine PE.imp (pe_callB call_isi hg hm (by decide +kernel) (pa_cons ha (pa_cons h1 pa_nil rfl) hs) (by decide) (by decide) hs rfl) fun σv H Qv ⟨σ, G, Q, E, rs, rh, h, pv, px⟩ => ?_
  refine ⟨σ, G, _, E, rs, rh, h, fun y v G1 H1 k1 rx rh1 q1 => ?_, px⟩
  obtain ⟨m, hm', ty, q⟩ := tyNm_ok rx rh1 q1
  exact ⟨v, .ty n, _, _, _, rfl, .ty n, ty, kit_ty (kit_of_isiB hm' hn), pv _ _ G1 H1 k1 (.bl _) rh1 q⟩
end Y

/-! Y7: methods of lists and texts; what is walked; comprehensions. -/
namespace Y
open PySem PySem.Spec PyProof.Rows L2
variable [T : Tab]

/-! ### methods of lists and texts -/
abbrev MD := D → List D → Hd → KD → Prop
def MtD (K : PySem.W.Frag) (r : V → List V → Hp → VK → Prop) (q : MD) : Prop :=
  ∀ (H : Hp) (G : Hd) (x : D) (xs : List D) (v : V) (vs : List V) (Q : KD) (Qv : VK), RD K H x v → RDs K H xs vs → RH K G H → q x xs G Q → PV K H Q Qv → r v vs H Qv
def isL (x : D) (G : Hd) : Prop := match x with
  | .ref a => ∃ ds, G a = some (.lst ds)
  | .rol _ => True
  | _ => False
def isS (x : D) : Prop := match x with
  | .str _ => True
  | _ => False
def tBmL (q : MD) (te : TED) (ta : TAD) : TED := fun σ G Q E => te σ G (fun x G1 => isL x G1 ∧ ta σ G1 (fun xs G2 => q x xs G2 Q) E) E
def tBmS (q : MD) (te : TED) (ta : TAD) : TED := fun σ G Q E => te σ G (fun x G1 => isS x ∧ ta σ G1 (fun xs G2 => q x xs G2 Q) E) E
theorem isL_ok {K : PySem.W.Frag} {H : Hp} {G : Hd} {x : D} {v : V} (rx : RD K H x v) (rh : RH K G H) (h : isL x G) : tyV K "list" v H := by
  cases x with
  | ref a =>
    cases rx
    obtain ⟨ds, e⟩ := h
    obtain ⟨us, f, r⟩ := rh a _ e
    exact .inl ⟨rfl, _, SqL.of f⟩
  | rol ds =>
    cases rx with
    | rol s r => exact .inl ⟨rfl, _, s.seq⟩
  | _ => exact h.elim
theorem isS_ok {K : PySem.W.Frag} {H : Hp} {x : D} {v : V} (rx : RD K H x v) (h : isS x) : tyV K "str" v H := by
  cases x with
  | str a => cases rx; rfl
  | _ => exact h.elim
section
variable {X : Cx} {W : WX} {o e : Expr} {es : List Expr} {te : TED} {ta : TAD} {name : Str} {apos cpos : Pos} {id : String} {r : V → List V → Hp → VK → Prop} {q : MD}
theorem je_bmL (slot : Slot "list" name id) (hty : typeOf (.builtin id) = pure (.type "method_descriptor")) (hm : MtR X id r) (hd : MtD X.K r q) (ho : PE X o (LE X.K te W)) (ha : PA X (e :: es) (LA X.K ta W))
    (hbase : attributeBase o name X.env (eval o X.env) = eval o X.env)
    (hfew : ((backTo cpos (starEach (e :: es) X.env)).all (fun x => !x.1) && (backToKw cpos (keywordEach [] X.env)).all (fun x => x.1.isSome) && decide ((e :: es).length + ([] : List Keyword).length + (if ([] : List Keyword).isEmpty then 0 else 1) < 30)) = true)
    (hline : (apos.endLine == cpos.line) = true) (hs : starEach (e :: es) X.env = (false, eval e X.env) :: starEach es X.env) (hpl : (backTo cpos (starEach es X.env)).any (·.1) = false) : PE X (.Call (.Attribute o name apos) (e :: es) [] cpos) (LE X.K (tBmL q te ta) W) :=
  PE.imp (pe_bm PySem.F.plainAttrs_list slot hty hm ho ha hbase hfew hline hs hpl) fun σv H Qv ⟨σ, G, Q, E, rs, rh, h, pv, px⟩ =>
    ⟨σ, G, _, E, rs, rh, h, fun x v G1 H1 k1 rx rh1 q1 => ⟨isL_ok rx rh1 q1.1, σ, G1, _, E, rs.keep k1, rh1, q1.2, fun xs vs G2 H2 k2 rxs rh2 q2 => hd H2 G2 x xs v vs Q Qv (rx.keep k2) rxs rh2 q2 (pv.keep (k1.trans k2)), px.keep k1⟩, px⟩
theorem je_bmL0 (slot : Slot "list" name id) (hty : typeOf (.builtin id) = pure (.type "method_descriptor")) (hm : MtR X id r) (hd : MtD X.K r q) (ho : PE X o (LE X.K te W)) (hbase : attributeBase o name X.env (eval o X.env) = eval o X.env) (hline : (apos.endLine == cpos.line) = true) :
    PE X (.Call (.Attribute o name apos) [] [] cpos) (LE X.K (tBmL q te tNilD) W) :=
  PE.imp (pe_bm0 PySem.F.plainAttrs_list slot hty hm ho hbase hline) fun σv H Qv ⟨σ, G, Q, E, rs, rh, h, pv, px⟩ =>
    ⟨σ, G, _, E, rs, rh, h, fun x v G1 H1 k1 rx rh1 q1 => ⟨isL_ok rx rh1 q1.1, hd H1 G1 x [] v [] Q Qv rx .nil rh1 q1.2 (pv.keep k1)⟩, px⟩
theorem je_bmS {ta' : TED} (slot : Slot "str" name id) (hty : typeOf (.builtin id) = pure (.type "method_descriptor")) (hm : MtR X id r) (hd : MtD X.K r q) (ho : PE X o (LE X.K te W)) (ha : PE X e (LE X.K ta' W)) (hs : starEach [e] X.env = [(false, eval e X.env)])
    (hbase : attributeBase o name X.env (eval o X.env) = eval o X.env) (hline : (apos.endLine == cpos.line) = true) : PE X (.Call (.Attribute o name apos) [e] [] cpos) (LE X.K (tBmS q te (tConsD ta' tNilD)) W) :=
  PE.imp (pe_m1 slot hty hm ho ha hs hbase hline) fun σv H Qv ⟨σ, G, Q, E, rs, rh, h, pv, px⟩ =>
    ⟨σ, G, _, E, rs, rh, h, fun x v G1 H1 k1 rx rh1 q1 => by
      obtain ⟨i1, q1⟩ := q1
      refine ⟨?_, σ, G1, _, E, rs.keep k1, rh1, q1, fun y u G2 H2 k2 ry rh2 q2 => hd H2 G2 x [y] v [u] Q Qv (rx.keep k2) (.one ry) rh2 q2 (pv.keep (k1.trans k2)), px.keep k1⟩
      cases x with
      | str a => cases rx; exact ⟨_, rfl⟩
      | _ => exact i1.elim, px⟩
theorem je_bmS0 (slot : Slot "str" name id) (hty : typeOf (.builtin id) = pure (.type "method_descriptor")) (hm : MtR X id r) (hd : MtD X.K r q) (ho : PE X o (LE X.K te W))
    (hbase : attributeBase o name X.env (eval o X.env) = eval o X.env) (hline : (apos.endLine == cpos.line) = true) : PE X (.Call (.Attribute o name apos) [] [] cpos) (LE X.K (tBmS q te tNilD) W) :=
  PE.imp (pe_m0 slot hty hm ho hbase hline) fun σv H Qv ⟨σ, G, Q, E, rs, rh, h, pv, px⟩ =>
    ⟨σ, G, _, E, rs, rh, h, fun x v G1 H1 k1 rx rh1 q1 => by
      obtain ⟨i1, q1⟩ := q1
      refine ⟨?_, hd H1 G1 x [] v [] Q Qv rx .nil rh1 q1 (pv.keep k1)⟩
      cases x with
      | str a => cases rx; exact ⟨_, rfl⟩
      | _ => exact i1.elim, px⟩
end
def mAppend : MD := fun x xs G Q => match x, xs with
  | .ref a, [y] => ∃ ds, G a = some (.lst ds) ∧ ds.length < sizeLine ∧ Q .non (up G a (.lst (ds ++ [y])))
  | _, _ => False
theorem mAppend_ok {K : PySem.W.Frag} : MtD K rAppend mAppend := by
  intro H G x xs v vs Q Qv rx rxs rh h pv
  match x, xs, h with
  | .ref a, [y], h =>
    cases rx
    obtain ⟨u, rfl, r⟩ := rxs.un
    obtain ⟨ds, e, hz, h⟩ := h
    obtain ⟨us, f, r2⟩ := rh a _ e
    exact ⟨a, us, u, rfl, rfl, f, by rw [← r2.len]; exact hz, pv _ _ _ _ (Tk.lst f) .non (rh.set_lst f (r2.app (.one r))) h⟩
def mExtend : MD := fun x xs G Q => match x, xs with
  | .ref a, [.ref b] => ∃ ds es, G a = some (.lst ds) ∧ G b = some (.lst es) ∧ ds.length + es.length ≤ sizeLine ∧ Q .non (up G a (.lst (ds ++ es)))
  | _, _ => False
theorem mExtend_ok {K : PySem.W.Frag} : MtD K rExtend mExtend := by
  intro H G x xs v vs Q Qv rx rxs rh h pv
  match x, xs, h with
  | .ref a, [.ref b], h =>
    cases rx
    obtain ⟨u, rfl, r⟩ := rxs.un
    cases r
    obtain ⟨ds, es, e, e2, hz, h⟩ := h
    obtain ⟨us, f, r2⟩ := rh a _ e
    obtain ⟨ws, f3, r3⟩ := rh b _ e2
    exact ⟨a, b, us, ws, rfl, rfl, f, f3, by rw [← r2.len, ← r3.len]; exact hz, pv _ _ _ _ (Tk.lst f) .non (rh.set_lst f (r2.app r3)) h⟩
def mPop : MD := fun x xs G Q => match x, xs with
  | .ref a, [] => ∃ ds y, G a = some (.lst ds) ∧ ds[ds.length - 1]? = some y ∧ Q y (up G a (.lst ds.dropLast))
  | .ref a, [.int i] => ∃ ds k y, G a = some (.lst ds) ∧ -(2 ^ 63) ≤ i ∧ i < 2 ^ 63 ∧ seqIndex? i ds.length = some k ∧ ds[k]? = some y ∧ Q y (up G a (.lst (ds.eraseIdx k)))
  | _, _ => False
def vPop : V → List V → Hp → VK → Prop := fun x vs H Q => rPop x vs H Q ∨ rPopAt x vs H Q
theorem mt_vPop {X : Cx} : MtR X "list.pop" vPop := MtR.or mt_pop mt_popAt
theorem mPop_ok {K : PySem.W.Frag} : MtD K vPop mPop := by
  intro H G x xs v vs Q Qv rx rxs rh h pv
  match x, xs, h with
  | .ref a, [], h =>
    cases rx
    cases rxs
    obtain ⟨ds, y, e, e2, h⟩ := h
    obtain ⟨us, f, r2⟩ := rh a _ e
    obtain ⟨u, e3, r3⟩ := r2.get e2
    exact .inl ⟨a, us, u, rfl, rfl, f, by rw [← r2.len]; exact e3, pv _ _ _ _ (Tk.lst f) (r3.keep (Tk.lst f)) (rh.set_lst f r2.last) h⟩
  | .ref a, [.int i], h =>
    cases rx
    obtain ⟨u, rfl, r⟩ := rxs.un
    cases r
    obtain ⟨ds, k, y, e, h1, h2, h3, e2, h⟩ := h
    obtain ⟨us, f, r2⟩ := rh a _ e
    obtain ⟨u, e3, r3⟩ := r2.get e2
    exact .inr ⟨a, us, i, k, u, rfl, rfl, f, h1, h2, by rw [← r2.len]; exact h3, e3, pv _ _ _ _ (Tk.lst f) (r3.keep (Tk.lst f)) (rh.set_lst f (r2.erase k)) h⟩
def mClear : MD := fun x xs G Q => match x, xs with
  | .ref a, [] => ∃ ds, G a = some (.lst ds) ∧ Q .non (up G a (.lst []))
  | _, _ => False
theorem mClear_ok {K : PySem.W.Frag} : MtD K rClear mClear := by
  intro H G x xs v vs Q Qv rx rxs rh h pv
  match x, xs, h with
  | .ref a, [], h =>
    cases rx
    cases rxs
    obtain ⟨ds, e, h⟩ := h
    obtain ⟨us, f, r2⟩ := rh a _ e
    exact ⟨a, us, rfl, rfl, f, pv _ _ _ _ (Tk.lst f) .non (rh.set_lst f .nil) h⟩
/-- the first place of an equal flat item -/
def mIndex : MD := fun x xs G Q => match x, xs with
  | .ref a, [y] => ∃ ds, ∃ j : Nat, ∃ z, G a = some (.lst ds) ∧ flatD y = true ∧ ds.all flatD = true ∧ ds[j]? = some z ∧ eqV (toV z) (toV y) = true ∧ (∀ (m : Nat) z', m < j → ds[m]? = some z' → eqV (toV z') (toV y) = false) ∧ Q (.int (j : Nat)) G
  | _, _ => False
def mJoin : MD := fun x xs G Q => match x, xs with
  | .str a, [.ref p] => ∃ ys : List Str, G p = some (.lst (ys.map D.str)) ∧ (ys.map (·.length)).sum + ys.length * a.length ≤ 16777216 ∧ Q (.str (Txt.join a ys)) G
  | _, _ => False
def vJoin (K : PySem.W.Frag) : V → List V → Hp → VK → Prop := fun x xs H Q => ∃ a p, ∃ ys : List Str, x = .str a ∧ xs = [.ref p] ∧ (SqL K H p (ys.map V.str) ∨ SqT K H p (ys.map V.str)) ∧ (ys.map (·.length)).sum + ys.length * a.length ≤ 16777216 ∧ Q (.str (Txt.join a ys)) H
theorem mJoin_ok {K : PySem.W.Frag} : MtD K (vJoin K) mJoin := by
  intro H G x xs v vs Q Qv rx rxs rh h pv
  match x, xs, h with
  | .str a, [.ref p], h =>
    cases rx
    obtain ⟨u, rfl, r⟩ := rxs.un
    cases r
    obtain ⟨ys, e, hz, h⟩ := h
    obtain ⟨us, f, r2⟩ := rh p _ e
    rw [r2.strsV] at f
    exact ⟨a, p, ys, rfl, rfl, .inl (SqL.of f), hz, pv.here (.str _) rh h⟩
def mLower : MD := fun x xs G Q => match x, xs with
  | .str a, [] => a.length ≤ 5592405 ∧ Q (.str (Txt.lower a)) G
  | _, _ => False
def vLower : V → List V → Hp → VK → Prop := fun x xs H Q => ∃ a, x = .str a ∧ xs = [] ∧ a.length ≤ 5592405 ∧ Q (.str (Txt.lower a)) H
theorem mLower_ok {K : PySem.W.Frag} : MtD K vLower mLower := by
  intro H G x xs v vs Q Qv rx rxs rh h pv
  match x, xs, h with
  | .str a, [], h => cases rx; cases rxs; exact ⟨a, rfl, rfl, h.1, pv.here (.str _) rh h.2⟩
def mFind : MD := fun x xs G Q => match x, xs with
  | .str a, [.str b] => Q (.int (Txt.find a b)) G
  | _, _ => False
def vFind : V → List V → Hp → VK → Prop := fun x xs H Q => ∃ a b, x = .str a ∧ xs = [.str b] ∧ Q (.int (Txt.find a b)) H
theorem mFind_ok {K : PySem.W.Frag} : MtD K vFind mFind := by
  intro H G x xs v vs Q Qv rx rxs rh h pv
  match x, xs, h with
  | .str a, [.str b], h => cases rx; obtain ⟨u, rfl, r⟩ := rxs.un; cases r; exact ⟨a, b, rfl, rfl, pv.here (.int _) rh h⟩
def mSplit : MD := fun x xs G Q => match x, xs with
  | .str a, [.str b] => (b.length == 0) = false ∧ a.length + 2 ≤ sizeLine ∧ ∀ p, G p = none → Q (.ref p) (up G p (.lst ((Txt.split a b).map D.str)))
  | _, _ => False
def vSplit : V → List V → Hp → VK → Prop := fun x xs H Q => ∃ a b, x = .str a ∧ xs = [.str b] ∧ (b.length == 0) = false ∧ a.length + 2 ≤ sizeLine ∧ rNewStrs (Txt.split a b) H Q
theorem RDs.strs {K : PySem.W.Frag} {H : Hp} : ∀ ys : List Str, RDs K H (ys.map D.str) (ys.map V.str)
  | [] => .nil
  | y :: ys => .cons (.str y) (RDs.strs ys)
theorem mSplit_ok {K : PySem.W.Frag} : MtD K vSplit mSplit := by
  intro H G x xs v vs Q Qv rx rxs rh h pv
  match x, xs, h with
  | .str a, [.str b], h => cases rx; obtain ⟨u, rfl, r⟩ := rxs.un; cases r; exact ⟨a, b, rfl, rfl, h.1, h.2.1, fun p hp => pv _ _ _ _ (Tk.new hp) (.ref p) (rh.new_lst hp (RDs.strs _)) (h.2.2 p (rh.none hp))⟩

/-! ### what is walked -/
/-- items told once and for all, or those of the list at a, which stays as it is while it is walked -/
inductive ItD where
  | fix (ds : List D)
  | live (a : Addr) (ds : List D)
def ItD.its : ItD → List D
  | .fix ds => ds
  | .live _ ds => ds
def ItD.ok : ItD → Hd → Prop
  | .fix _, _ => True
  | .live a ds, G => G a = some (.lst ds)
abbrev TID := St → Hd → (ItD → Hd → Prop) → XD → Prop
/-- an iterator of the layer yields these items -/
structure RI (K : PySem.W.Frag) (H0 : Hp) (J : ItD) (j : It) : Prop where
  go : ∀ (H : Hp) (G : Hd) (i : Nat) (d : D), Tk K H0 H → RH K G H → J.ok G → J.its[i]? = some d → j.go i H ∧ ∀ x H', j.yld i H x H' → Tk K H H' ∧ RD K H' d x ∧ RH K G H'
  stop : ∀ (H : Hp) (G : Hd), Tk K H0 H → RH K G H → J.ok G → j.stop J.its.length H
theorem RI.keep {K : PySem.W.Frag} {H H' : Hp} {J : ItD} {j : It} (r : RI K H J j) (k : Tk K H H') : RI K H' J j := ⟨fun H1 G i d k1 => r.go H1 G i d (k.trans k1), fun H1 G k1 => r.stop H1 G (k.trans k1)⟩
def LI (K : PySem.W.Frag) (t : TID) (W : WX) : TI := fun σv H R => ∃ σ G Q E, RS K H σ σv ∧ RH K G H ∧ t σ G Q E ∧ (∀ J j G' H', Tk K H H' → RI K H' J j → RH K G' H' → Q J G' → R j H') ∧ PX K H σv E W
theorem PI.imp {X : Cx} {tg e : Expr} {t t' : TI} (h : PI X tg e t) (k : ∀ σ H Q, t' σ H Q → t σ H Q) : PI X tg e t' := ⟨fun pins s σ H Q I q => h.run pins s σ H Q I (k σ H Q q)⟩
theorem ri_tup' {K : PySem.W.Frag} {H : Hp} {a : Addr} {vs : List V} {ds : List D} (s : SqT K H a vs) (r : RDs K H ds vs) : RI K H (.fix ds) (Itt K a) :=
  ⟨fun H1 G i d k rh ok e => by
    obtain ⟨v, e1, r1⟩ := r.get e
    refine ⟨⟨vs, v, k.t _ _ s, e1⟩, fun x H' y => ?_⟩
    obtain ⟨rfl, y⟩ := y
    have := y vs (k.t _ _ s)
    rw [e1] at this
    cases this
    exact ⟨Tk.refl _, r1.keep k, rh⟩, fun H1 G k rh ok => ⟨vs, k.t _ _ s, Nat.le_of_eq r.len.symm⟩⟩
theorem ri_rol {K : PySem.W.Frag} {H : Hp} {a : Addr} {vs : List V} {ds : List D} (s : Frz K H a vs) (r : RDs K H ds vs) : RI K H (.fix ds) (Itl K a) :=
  ⟨fun H1 G i d k rh ok e => by
    obtain ⟨v, e1, r1⟩ := r.get e
    refine ⟨⟨vs, v, (k.f _ _ s).seq, e1⟩, fun x H' y => ?_⟩
    obtain ⟨rfl, y⟩ := y
    have := y vs (k.f _ _ s).seq
    rw [e1] at this
    cases this
    exact ⟨Tk.refl _, r1.keep k, rh⟩, fun H1 G k rh ok => ⟨vs, (k.f _ _ s).seq, Nat.le_of_eq r.len.symm⟩⟩
theorem ri_live {K : PySem.W.Frag} {H : Hp} {a : Addr} {ds : List D} : RI K H (.live a ds) (Itl K a) :=
  ⟨fun H1 G i d k rh ok e => by
    obtain ⟨vs, f, r⟩ := rh a _ ok
    obtain ⟨v, e1, r1⟩ := r.get e
    refine ⟨⟨vs, v, SqL.of f, e1⟩, fun x H' y => ?_⟩
    obtain ⟨rfl, y⟩ := y
    have := y vs (SqL.of f)
    rw [e1] at this
    cases this
    exact ⟨Tk.refl _, r1, rh⟩, fun H1 G k rh ok => by
    obtain ⟨vs, f, r⟩ := rh a _ ok
    exact ⟨vs, SqL.of f, Nat.le_of_eq r.len.symm⟩⟩
def intsD (lo : Int) (n : Nat) : List D := (List.range n).map fun (i : Nat) => D.int (lo + (i : Int))
theorem ri_rng {K : PySem.W.Frag} {H : Hp} (lo : Int) (n : Nat) : RI K H (.fix (intsD lo n)) (Itr lo n) :=
  ⟨fun H1 G i d k rh ok e => by
    have hl : i < n := by
      have := (List.getElem?_eq_some_iff.mp e).1
      simpa [ItD.its, intsD] using this
    have e' : D.int (lo + (i : Int)) = d := by
      have : (intsD lo n)[i]? = some (D.int (lo + (i : Int))) := by simp [intsD, hl]
      rw [show (ItD.fix (intsD lo n)).its = intsD lo n from rfl, this] at e
      exact Option.some.inj e
    subst e'
    refine ⟨hl, fun x H' y => ?_⟩
    obtain ⟨rfl, rfl⟩ := y
    exact ⟨Tk.refl _, .int _, rh⟩, fun H1 G k rh ok => by show n ≤ _; simp [ItD.its, intsD]⟩
def signs (z : Str) : List D := z.cps.toList.map fun c => D.str ⟨#[c]⟩
theorem ri_str {K : PySem.W.Frag} {H : Hp} (z : Str) : RI K H (.fix (signs z)) (Its z) :=
  ⟨fun H1 G i d k rh ok e => by
    have e0 : (signs z)[i]? = some d := e
    unfold signs at e0
    rw [List.getElem?_map] at e0
    cases q : z.cps.toList[i]? with
    | none => rw [q] at e0; cases e0
    | some c =>
      rw [q] at e0
      have e' : D.str ⟨#[c]⟩ = d := Option.some.inj e0
      subst e'
      have hl : i < z.cps.size := by
        have := (List.getElem?_eq_some_iff.mp q).1
        simpa using this
      refine ⟨hl, fun x H' y => ?_⟩
      obtain ⟨rfl, c', hc, rfl⟩ := y
      have hc2 : z.cps.toList[i]? = some c' := by simpa using hc
      rw [q] at hc2
      cases hc2
      exact ⟨Tk.refl _, .str _, rh⟩, fun H1 G k rh ok => by show z.cps.size ≤ _; simp [ItD.its, signs]⟩
/-- a value that is walked -/
def walkD (x : D) (G : Hd) (Q : ItD → Prop) : Prop := match x with
  | .tup ds => Q (.fix ds)
  | .rol ds => Q (.fix ds)
  | .ref a => ∃ ds, G a = some (.lst ds) ∧ Q (.live a ds)
  | .str z => Q (.fix (signs z))
  | _ => False
def tWalkD (te : TED) : TID := fun σ G Q E => te σ G (fun x G1 => walkD x G1 fun J => Q J G1) E
theorem ji_walk {X : Cx} {W : WX} {tg e : Expr} {te : TED} (he : PE X e (LE X.K te W)) : PI X tg e (LI X.K (tWalkD te) W) := by
  refine ⟨fun pn s σv H R I ⟨σ, G, Q, E, rs, rh, h, pv, px⟩ => ?_⟩
  refine thn (he.run pn s σv H (fun v H1 => ∃ x G1, Tk X.K H H1 ∧ RD X.K H1 x v ∧ RH X.K G1 H1 ∧ walkD x G1 fun J => Q J G1) I ⟨σ, G, _, E, rs, rh, h, fun x v G1 H1 k1 rx rh1 q1 => ⟨x, G1, k1, rx, rh1, q1⟩, px⟩) fun u s1 ⟨v, H1, I1, rv, x, G1, k1, rx, rh1, q⟩ => ?_
  cases x with
  | tup ds =>
    cases rx with
    | tup sq r =>
      cases rv
      obtain ⟨its, rv2, ht, hz⟩ := I1.tuple sq
      exact wpAny_pyIter_tuple (show s1.heap.IsTuple _ its.toArray from ht) (pi_one (tk := s1.toks) I1 _ (turn_tuple _ _) ⟨_, Heap.get?_push_size _ rfl, rfl, rfl⟩ (pv _ _ G1 H1 k1 (ri_tup' sq r) rh1 q))
  | rol ds =>
    cases rx with
    | rol sq r =>
      cases rv
      obtain ⟨its, rv2, pl, hz⟩ := I1.list sq.seq
      exact wpAny_pyIter_list pl.isList (pi_one (tk := s1.toks) I1 _ (turn_list _ _) ⟨_, Heap.get?_push_size _ rfl, rfl, rfl⟩ (pv _ _ G1 H1 k1 (ri_rol sq r) rh1 q))
  | ref a =>
    cases rx
    cases rv
    obtain ⟨ds, e, q⟩ := q
    obtain ⟨vs, f, r⟩ := rh1 a _ e
    obtain ⟨its, rv2, pl, hz⟩ := I1.list (SqL.of f)
    exact wpAny_pyIter_list pl.isList (pi_one (tk := s1.toks) I1 _ (turn_list _ _) ⟨_, Heap.get?_push_size _ rfl, rfl, rfl⟩ (pv _ _ G1 H1 k1 ri_live rh1 q))
  | str z =>
    cases rx
    obtain ⟨t, rfl⟩ := rv
    cases ha : z.cps.all (· < 128)
    · exact wpAny_pyIter_wide ha (pi_one (tk := s1.toks) I1 _ (turn_str _ z t "str_iterator" (.inr rfl)) ⟨_, Heap.get?_push_size _ rfl, rfl, rfl⟩ (pv _ _ G1 H1 k1 (ri_str z) rh1 q))
    · exact wpAny_pyIter_ascii ha (pi_one (tk := s1.toks) I1 _ (turn_str _ z t "str_ascii_iterator" (.inl rfl)) ⟨_, Heap.get?_push_size _ rfl, rfl, rfl⟩ (pv _ _ G1 H1 k1 (ri_str z) rh1 q))
  | _ => exact q.elim
/-- range(n), range(a, b) -/
def tRng1D (ta : TED) : TID := fun σ G Q E => ta σ G (fun x G1 => match x with
  | .int j => -(2 ^ 62) ≤ j ∧ j < 2 ^ 62 ∧ Q (.fix (intsD 0 j.toNat)) G1
  | _ => False) E
def tRng2D (ta tb : TED) : TID := fun σ G Q E => ta σ G (fun x G1 => tb σ G1 (fun y G2 => match x, y with
  | .int i, .int j => (-(2 ^ 62) ≤ i ∧ i < 2 ^ 62 ∧ -(2 ^ 62) ≤ j ∧ j < 2 ^ 62) ∧ Q (.fix (intsD i (j - i).toNat)) G2
  | _, _ => False) E) E
section
variable {X : Cx} {W : WX} {tg a b : Expr} {ta tb : TED} {p pos : Pos}
theorem ji_rng1 (hg : Gl X "range") (hm : X.mg "range" = none) (ha : PE X a (LE X.K ta W)) (hs : starEach [a] X.env = [(false, eval a X.env)]) (hs2 : starEach (a :: []) X.env = (false, eval a X.env) :: starEach [] X.env) : PI X tg (.Call (.Name "range" p) [a] [] pos) (LI X.K (tRng1D ta) W) :=
  PI.imp (pi_range1 hg hm (pa_cons ha pa_nil hs2) hs) fun σv H R ⟨σ, G, Q, E, rs, rh, h, pv, px⟩ => ⟨σ, G, _, E, rs, rh, h, fun x v G1 H1 k1 rx rh1 q1 => by
    cases x with
    | int j => cases rx; exact ⟨j, rfl, q1.1, q1.2.1, pv _ _ G1 H1 k1 (ri_rng 0 _) rh1 q1.2.2⟩
    | _ => exact q1.elim, px⟩
theorem ji_rng2 (hg : Gl X "range") (hm : X.mg "range" = none) (ha : PE X a (LE X.K ta W)) (hb : PE X b (LE X.K tb W)) (hs : starEach [a, b] X.env = [(false, eval a X.env), (false, eval b X.env)]) (hs1 : starEach [b] X.env = [(false, eval b X.env)])
    (hs2 : starEach (a :: [b]) X.env = (false, eval a X.env) :: starEach [b] X.env) (hs3 : starEach (b :: []) X.env = (false, eval b X.env) :: starEach [] X.env) : PI X tg (.Call (.Name "range" p) [a, b] [] pos) (LI X.K (tRng2D ta tb) W) :=
  PI.imp (pi_range2 hg hm (pa_cons ha (pa_cons hb pa_nil hs3) hs2) hs hs1) fun σv H R ⟨σ, G, Q, E, rs, rh, h, pv, px⟩ => ⟨σ, G, _, E, rs, rh, h, fun x v G1 H1 k1 rx rh1 q1 => ⟨σ, G1, _, E, rs.keep k1, rh1, q1, fun y u G2 H2 k2 ry rh2 q2 => by
    cases x with
    | int i =>
      cases y with
      | int j => cases rx; cases ry; exact ⟨i, j, rfl, q2.1, pv _ _ G2 H2 (k1.trans k2) (ri_rng i _) rh2 q2.2⟩
      | _ => exact q2.elim
    | _ => cases y <;> exact q2.elim, px.keep k1⟩, px⟩
end
end Y

/-! Y8: targets; statements; loops; comprehensions. -/
namespace Y
open PySem PySem.Spec PyProof.Rows L2
variable [T : Tab]

/-! ### targets -/
abbrev TGD := D → St → Hd → (St → Hd → Prop) → Prop
abbrev TGsD := List D → St → Hd → (St → Hd → Prop) → Prop
def PN (K : PySem.W.Frag) (H : Hp) (k : St → Hd → Prop) (kv : L2.St → Hp → Prop) : Prop := ∀ σ' G' σv' H', Tk K H H' → RS K H' σ' σv' → RH K G' H' → k σ' G' → kv σv' H'
theorem PN.keep {K : PySem.W.Frag} {H H' : Hp} {k : St → Hd → Prop} {kv : L2.St → Hp → Prop} (h : PN K H k kv) (t : Tk K H H') : PN K H' k kv := fun σ' G' σv' H1 t1 => h σ' G' σv' H1 (t.trans t1)
def LG (K : PySem.W.Frag) (t : TGD) : TG := fun v σv H kv => ∃ d σ G k, RD K H d v ∧ RS K H σ σv ∧ RH K G H ∧ t d σ G k ∧ PN K H k kv
def LGs (K : PySem.W.Frag) (t : TGsD) : TGs := fun vs σv H kv => ∃ ds σ G k, RDs K H ds vs ∧ RS K H σ σv ∧ RH K G H ∧ t ds σ G k ∧ PN K H k kv
theorem PG.imp {X : Cx} {e : Expr} {t t' : TG} (h : PG X e t) (k : ∀ v σ H Q, t' v σ H Q → t v σ H Q) : PG X e t' := ⟨fun pins s σ H v u Q I r q => h.run pins s σ H v u Q I r (k v σ H Q q)⟩
theorem PGs.imp {X : Cx} {e : List Expr} {t t' : TGs} (h : PGs X e t) (k : ∀ v σ H Q, t' v σ H Q → t v σ H Q) : PGs X e t' := ⟨fun pins s σ H v u Q I r q => h.run pins s σ H v u Q I r (k v σ H Q q)⟩
abbrev gNm (i : Nat) : TGD := fun d σ G k => k (σ.set i (some d)) G
def gNilD : TGsD := fun ds σ G k => ds = [] ∧ k σ G
def gConsD (t : TGD) (u : TGsD) : TGsD := fun ds σ G k => match ds with
  | d :: r => t d σ G fun σ' G' => u r σ' G' k
  | [] => False
def gTpD (n : Nat) (t : TGsD) : TGD := fun d σ G k => match d with
  | .tup ds => ds.length = n ∧ t ds σ G k
  | _ => False
/-- o.f = .. as a target -/
def gFlD (te : TED) (f : Str) : TGD := fun d σ G k => te σ G (fun x G1 => match x with
  | .ref a => ∃ c fs, G1 a = some (.ins c fs) ∧ T.att c f = true ∧ fs.length < 1000 ∧ k σ (up G1 a (.ins c (putD f d fs)))
  | _ => False) (fun _ _ _ => False)
theorem takes_no {X : Cx} : Takes X (fun _ _ _ _ => False) := fun u s' h => by
  obtain ⟨_, _, _, _, _, _, _, _, _, _, _, _, _, _, _, _, z⟩ := h
  exact z.elim
section
variable {X : Cx} {W : WX} {pos : Pos}
theorem jg_nm {i : Nat} {x : Str} (hN : X.N.Nodup) (hi : X.N[i]? = some x) (hx : Loc X.env.scope x) (hf : X.fn x = true ∨ X.env.scope.names.lookup x = some .local) : PG X (.Name x pos) (LG X.K (gNm i)) :=
  PG.imp (pg_name hN hi hx hf) fun v σv H kv ⟨d, σ, G, k, r, rs, rh, h, pn⟩ => pn _ G _ H (Tk.refl H) (rs.set i r) rh h
theorem jgs_nil : PGs X [] (LGs X.K gNilD) :=
  PGs.imp pgs_nil fun vs σv H kv ⟨ds, σ, G, k, r, rs, rh, h, pn⟩ => by
    obtain ⟨rfl, h⟩ := h
    cases r
    exact ⟨rfl, pn σ G σv H (Tk.refl H) rs rh h⟩
theorem jgs_cons {e : Expr} {es : List Expr} {t : TGD} {u : TGsD} (h1 : PG X e (LG X.K t)) (h2 : PGs X es (LGs X.K u)) (hs : (assignEach (e :: es) X.env).map (·.2) = assign e X.env :: (assignEach es X.env).map (·.2)) : PGs X (e :: es) (LGs X.K (gConsD t u)) :=
  PGs.imp (pgs_cons h1 h2 hs) fun vs σv H kv ⟨ds, σ, G, k, r, rs, rh, h, pn⟩ => by
    cases ds with
    | nil => exact h.elim
    | cons d ds =>
      cases r with
      | cons r1 r2 => exact ⟨_, _, rfl, d, σ, G, _, r1, rs, rh, h, fun σ' G' σv' H' t1 rs1 rh1 q => ⟨ds, σ', G', k, r2.keep t1, rs1, rh1, q, pn.keep t1⟩⟩
theorem jg_tp {es : List Expr} {j n : Nat} {t : TGsD} (hc : X.calm = true) (h : PGs X es (LGs X.K t)) (hn : (assignEach es X.env).length = n) (hst : (assignEach es X.env).findIdx? (·.1) = none) : PG X (.Tuple es j pos) (LG X.K (gTpD n t)) :=
  PG.imp (pg_tup hc h hn hst) fun v σv H kv ⟨d, σ, G, k, r, rs, rh, h, pn⟩ => by
    cases d with
    | tup ds =>
      cases r with
      | tup s r => exact ⟨_, _, rfl, s, by rw [← r.len]; exact h.1, ds, σ, G, k, r, rs, rh, h.2, pn⟩
    | _ => exact h.elim
theorem jg_fl {o : Expr} {te : TED} {f : Str} (ok : AttOk X.K) (he : PE X o (LE X.K te (fun _ _ _ _ => False)))
    (ha : ∀ v, assign (.Attribute o f pos) X.env v = (do
      let ov ← holding [v] (eval o X.env)
      standAt pos.atName
      holding [v, ov] (setAttr ov f v)
      release [v, ov] [])) : PG X (.Attribute o f pos) (LG X.K (gFlD te f)) := by
  refine ⟨fun pn s σv H v u kv I r ⟨d, σ, G, k, rd, rs, rh, h, pk⟩ => ?_⟩
  rw [ha]
  refine wpAny_bind (wpAny_holding (thn (he.run pn s σv H (fun w H1 => ∃ a c fs G1, w = .ref a ∧ Tk X.K H H1 ∧ RH X.K G1 H1 ∧ G1 a = some (.ins c fs) ∧ T.att c f = true ∧ fs.length < 1000 ∧ k σ (up G1 a (.ins c (putD f d fs)))) I ?_) fun ov s1 ⟨w, H1, I1, rw', a, c, fs, G1, ew, k1, rh1, e1, hat, hl, q⟩ => ?_))
  · refine ⟨σ, G, _, _, rs, rh, h, fun x w G1 H1 k1 rx rh1 q1 => ?_, fun _ _ _ _ _ _ _ _ _ z => z⟩
    cases x with
    | ref a => cases rx; obtain ⟨c, fs, e1, hat, hl, q⟩ := q1; exact ⟨a, c, fs, G1, rfl, k1, rh1, e1, hat, hl, q⟩
    | _ => exact q1.elim
  · subst ew
    obtain rfl : ov = Value.ref a := rw'
    obtain ⟨dx, gs, e3, rf⟩ := rh1 a _ e1
    obtain ⟨k3, k4⟩ := ok c f hat
    refine wpAny_bind (wpAny_standAt (wpAny_bind (wpAny_holding (setattr_ok I1 e3 k3 k4 (by rw [← rf.len]; exact hl) r fun s2 I2 => ?_))))
    have tk : Tk X.K H1 (L2.upd H1 a (.ins (He.ga X.K (T.cn c)) dx (putF f v gs))) := Tk.ins e3
    refine wpAny_release ⟨σv, _, I2, pk σ _ σv _ (k1.trans tk) (rs.keep (k1.trans tk)) (rh1.set_ins e3 rfl (RF.put (rd.keep k1) rf)) q⟩
end
/-! ### statements -/
structure En where
  nx : St → Hd → Prop
  rt : D → Hd → Prop
  bk : St → Hd → Prop
  ct : St → Hd → Prop
  ex : Nat → List (Str × D) → St → Hd → Prop
abbrev TSD := En → St → Hd → Prop
def PXs (K : PySem.W.Frag) (H : Hp) (E : Nat → List (Str × D) → St → Hd → Prop) (W : WX) : Prop := ∀ c fs cls dd σ' G' σv' H', Tk K H H' → RX K H' c fs cls dd → RS K H' σ' σv' → RH K G' H' → E c fs σ' G' → W cls dd σv' H'
structure PEn (K : PySem.W.Frag) (H : Hp) (D : En) (Dv : Ends) (W : WX) : Prop where
  nx : PN K H D.nx Dv.nx
  rt : PV K H D.rt Dv.rt
  bk : PN K H D.bk Dv.bk
  ct : PN K H D.ct Dv.ct
  ex : PXs K H D.ex W
theorem PEn.keep {K : PySem.W.Frag} {H H' : Hp} {D : En} {Dv : Ends} {W : WX} (h : PEn K H D Dv W) (k : Tk K H H') : PEn K H' D Dv W :=
  ⟨h.nx.keep k, h.rt.keep k, h.bk.keep k, h.ct.keep k, fun c fs cls dd σ' G' σv' H1 k1 => h.ex c fs cls dd σ' G' σv' H1 (k.trans k1)⟩
def LSt (K : PySem.W.Frag) (t : TSD) (W : WX) : TS := fun Dv σv H => ∃ σ G D, RS K H σ σv ∧ RH K G H ∧ t D σ G ∧ PEn K H D Dv W
/-- what an expression of the statement may let out -/
abbrev En.x (D : En) (σ : St) : XD := fun c fs G => D.ex c fs σ G
theorem PEn.px {K : PySem.W.Frag} {H : Hp} {D : En} {Dv : Ends} {W : WX} (h : PEn K H D Dv W) {σ : St} {σv : L2.St} (rs : RS K H σ σv) : PX K H σv (D.x σ) W :=
  fun c fs cls dd G' H' k rx rh q => h.ex c fs cls dd σ G' σv H' k rx (rs.keep k) rh q
abbrev sNext : TSD := fun D σ G => D.nx σ G
def sSeq (t u : TSD) : TSD := fun D σ G => t { D with nx := u D } σ G
def sRet (te : TED) : TSD := fun D σ G => te σ G D.rt (D.x σ)
def sRetN : TSD := fun D _ G => D.rt .non G
def sExp (te : TED) : TSD := fun D σ G => te σ G (fun _ G1 => D.nx σ G1) (D.x σ)
def sIf (c : TTD) (t u : TSD) : TSD := fun D σ G => c σ G (fun b G1 => pick b (t D σ G1) (u D σ G1)) (D.x σ)
def sAsg (te : TED) (g : TGD) : TSD := fun D σ G => te σ G (fun x G1 => g x σ G1 D.nx) (D.x σ)
def sFld (to tv : TED) (f : Str) : TSD := fun D σ G => tv σ G (fun y G1 => to σ G1 (fun x G2 => match x with
  | .ref a => ∃ c fs, G2 a = some (.ins c fs) ∧ T.att c f = true ∧ fs.length < 1000 ∧ D.nx σ (up G2 a (.ins c (putD f y fs)))
  | _ => False) (D.x σ)) (D.x σ)
def sIx (to ti tv : TED) : TSD := fun D σ G => tv σ G (fun y G1 => to σ G1 (fun x G2 => ti σ G2 (fun i G3 => match x, i with
  | .ref a, .int k => ∃ ds j, G3 a = some (.lst ds) ∧ ixN ds.length k = some j ∧ D.nx σ (up G3 a (.lst (ds.set j y)))
  | _, _ => False) (D.x σ)) (D.x σ)) (D.x σ)
def sAug (i : Nat) (te : TED) (q : R2D) : TSD := fun D σ G => match σ[i]? with
  | some (some x) => te σ G (fun y G1 => q x y G1 fun z G2 => D.nx (σ.set i (some z)) G2) (D.x σ)
  | _ => False
def sFldAug (to tv : TED) (q : R2D) (f : Str) : TSD := fun D σ G => to σ G (fun x G1 => match x with
  | .ref a => ∃ c fs d, G1 a = some (.ins c fs) ∧ T.att c f = true ∧ fs.lookup f = some d ∧ tv σ G1 (fun y G2 => q d y G2 fun z G3 => ∃ c' fs', G3 a = some (.ins c' fs') ∧ c' = c ∧ fs'.length < 1000 ∧ D.nx σ (up G3 a (.ins c (putD f z fs')))) (D.x σ)
  | _ => False) (D.x σ)
section
variable {X : Cx} {W : WX} {st : Stmt} {rest : List Stmt} {t u : TSD} {e c : Expr} {te tv to ti : TED} {tc : TTD} {pos pos' : Pos}
theorem jss_nil : PSs X [] (LSt X.K sNext W) := PSs.imp pss_nil fun Dv σv H ⟨σ, G, D, rs, rh, h, pe⟩ => pe.nx σ G σv H (Tk.refl H) rs rh h
theorem jss_cons (h1 : PS X st (LSt X.K t W)) (h2 : PSs X rest (LSt X.K u W)) : PSs X (st :: rest) (LSt X.K (sSeq t u) W) :=
  PSs.imp (pss_cons h1 h2) fun Dv σv H ⟨σ, G, D, rs, rh, h, pe⟩ => ⟨σ, G, { D with nx := u D }, rs, rh, h, ⟨fun σ' G' σv' H' k rs' rh' q => ⟨σ', G', D, rs', rh', q, pe.keep k⟩, pe.rt, pe.bk, pe.ct, pe.ex⟩⟩
theorem js_pass : PS X (.Pass pos) (LSt X.K sNext W) := PS.imp ps_pass fun Dv σv H ⟨σ, G, D, rs, rh, h, pe⟩ => pe.nx σ G σv H (Tk.refl H) rs rh h
theorem js_brk : PS X (.Break pos) (LSt X.K (fun D σ G => D.bk σ G) W) := PS.imp ps_break fun Dv σv H ⟨σ, G, D, rs, rh, h, pe⟩ => pe.bk σ G σv H (Tk.refl H) rs rh h
theorem js_cnt : PS X (.Continue pos) (LSt X.K (fun D σ G => D.ct σ G) W) := PS.imp ps_continue fun Dv σv H ⟨σ, G, D, rs, rh, h, pe⟩ => pe.ct σ G σv H (Tk.refl H) rs rh h
theorem js_ret (he : PE X e (LE X.K te W)) : PS X (.Return (some e) pos) (LSt X.K (sRet te) W) :=
  PS.imp (ps_ret he) fun Dv σv H ⟨σ, G, D, rs, rh, h, pe⟩ => ⟨σ, G, D.rt, _, rs, rh, h, pe.rt, pe.px rs⟩
theorem js_retN : PS X (.Return none pos) (LSt X.K sRetN W) := PS.imp ps_retN fun Dv σv H ⟨σ, G, D, rs, rh, h, pe⟩ => pe.rt.here .non rh h
theorem js_exp (he : PE X e (LE X.K te W)) (hs : swapsWith e none pos.line X.env = pure false) : PS X (.Expr e pos) (LSt X.K (sExp te) W) :=
  PS.imp (ps_expr he hs) fun Dv σv H ⟨σ, G, D, rs, rh, h, pe⟩ => ⟨σ, G, _, _, rs, rh, h, fun d v G' H' k r rh' q => pe.nx σ G' σv H' k (rs.keep k) rh' q, pe.px rs⟩
theorem js_if {a b : List Stmt} (hc : PT X c (LT X.K tc W)) (ha : PSs X a (LSt X.K t W)) (hb : PSs X b (LSt X.K u W)) : PS X (.If c a b pos) (LSt X.K (sIf tc t u) W) :=
  PS.imp (ps_if hc ha hb) fun Dv σv H ⟨σ, G, D, rs, rh, h, pe⟩ => ⟨σ, G, _, _, rs, rh, h, fun b G' H' k rh' q => by
    cases b with
    | true => exact ite_tt ⟨σ, G', D, rs.keep k, rh', q, pe.keep k⟩
    | false => exact ite_ff ⟨σ, G', D, rs.keep k, rh', q, pe.keep k⟩, pe.px rs⟩
theorem js_set {i : Nat} {x : Str} (hN : X.N.Nodup) (hi : X.N[i]? = some x) (hx : Loc X.env.scope x) (he : PE X e (LE X.K te W)) (hs : swapsWith e (some (.Name x pos')) pos.line X.env = pure false) (hf : X.fn x = true ∨ X.env.scope.names.lookup x = some .local) :
    PS X (.Assign [.Name x pos'] e pos) (LSt X.K (sAsg te (gNm i)) W) :=
  PS.imp (ps_set hN hi hx he hs hf) fun Dv σv H ⟨σ, G, D, rs, rh, h, pe⟩ => ⟨σ, G, _, _, rs, rh, h, fun d v G' H' k r rh' q => pe.nx _ G' _ H' k ((rs.keep k).set i r) rh' q, pe.px rs⟩
theorem js_asg {tg : Expr} {g : TGD} (he : PE X e (LE X.K te W)) (hg : PG X tg (LG X.K g)) (hs : swapsWithSole [tg] e pos.line X.env = pure false) (hw : swappedStores [tg] e X.env = pure none) (h1 : (assignEach [tg] X.env).map (·.2) = [assign tg X.env]) :
    PS X (.Assign [tg] e pos) (LSt X.K (sAsg te g) W) :=
  PS.imp (ps_asg he hg hs hw h1) fun Dv σv H ⟨σ, G, D, rs, rh, h, pe⟩ => ⟨σ, G, _, _, rs, rh, h, fun d v G' H' k r rh' q => ⟨d, σ, G', D.nx, r, rs.keep k, rh', q, pe.nx.keep k⟩, pe.px rs⟩
theorem js_fld {o : Expr} {f : Str} (ok : AttOk X.K) (ho : PE X o (LE X.K to W)) (hv : PE X e (LE X.K tv W)) (hs : swapsWith e (some (.Attribute o f pos')) pos.line X.env = pure false) : PS X (.Assign [.Attribute o f pos'] e pos) (LSt X.K (sFld to tv f) W) :=
  PS.imp (ps_fld ho hv hs) fun Dv σv H ⟨σ, G, D, rs, rh, h, pe⟩ => ⟨σ, G, _, _, rs, rh, h, fun y w G1 H1 k1 ry rh1 q1 => ⟨σ, G1, _, _, rs.keep k1, rh1, q1, fun x v G2 H2 k2 rx rh2 q2 => by
    cases x with
    | ref a =>
      cases rx
      obtain ⟨c, fs, e1, hat, hl, q⟩ := q2
      obtain ⟨dx, gs, e3, rf⟩ := rh2 a _ e1
      obtain ⟨k3, k4⟩ := ok c f hat
      have tk : Tk X.K H2 (L2.upd H2 a (.ins (He.ga X.K (T.cn c)) dx (putF f w gs))) := Tk.ins e3
      exact ⟨a, _, dx, gs, rfl, e3, k3, k4, by rw [← rf.len]; exact hl, pe.nx σ _ σv _ ((k1.trans k2).trans tk) (rs.keep ((k1.trans k2).trans tk)) (rh2.set_ins e3 rfl (RF.put (ry.keep k2) rf)) q⟩
    | _ => exact q2.elim, (pe.keep k1).px (rs.keep k1)⟩, pe.px rs⟩
theorem js_ix {o i : Expr} (ho : PE X o (LE X.K to W)) (hi : PE X i (LE X.K ti W)) (hv : PE X e (LE X.K tv W))
    (ha : ∀ v, assign (.Subscript o i pos') X.env v = (do
      let ov ← holding [v] (eval o X.env)
      let iv ← holding [v, ov] (eval i X.env)
      standAt pos'
      holding [v, ov, iv] (setItem ov iv v)
      release [v, ov, iv] [])) (hs : swapsWithSole [.Subscript o i pos'] e pos.line X.env = pure false) (hw : swappedStores [.Subscript o i pos'] e X.env = pure none) (h1 : (assignEach [.Subscript o i pos'] X.env).map (·.2) = [assign (.Subscript o i pos') X.env]) :
    PS X (.Assign [.Subscript o i pos'] e pos) (LSt X.K (sIx to ti tv) W) :=
  PS.imp (ps_asg hv (pg_sub ho hi set_list ha) hs hw h1) fun Dv σv H ⟨σ, G, D, rs, rh, h, pe⟩ => ⟨σ, G, _, _, rs, rh, h, fun y w G1 H1 k1 ry rh1 q1 => ⟨σ, G1, _, _, rs.keep k1, rh1, q1, fun x v G2 H2 k2 rx rh2 q2 => ⟨σ, G2, _, _, rs.keep (k1.trans k2), rh2, q2, fun n m G3 H3 k3 rn rh3 q3 => by
    cases x with
    | ref a =>
      cases n with
      | int k =>
        cases rx; cases rn
        obtain ⟨ds, j, e1, e2, q⟩ := q3
        obtain ⟨vs, f, r⟩ := rh3 a _ e1
        have tk : Tk X.K H3 (L2.upd H3 a (.lst (vs.set j w))) := Tk.lst f
        exact ⟨a, vs, k, j, rfl, rfl, f, by rw [← r.len]; exact e2, pe.nx σ _ σv _ (((k1.trans k2).trans k3).trans tk) (rs.keep (((k1.trans k2).trans k3).trans tk)) (rh3.set_lst f (r.set j ((ry.keep k2).keep k3))) q⟩
      | _ => exact q3.elim
    | _ => cases n <;> exact q3.elim, (pe.keep (k1.trans k2)).px (rs.keep (k1.trans k2))⟩, (pe.keep k1).px (rs.keep k1)⟩, pe.px rs⟩
end
/-- an operator in place, by values -/
def IpD (X : Cx) (op : Operator) (q : R2D) : Prop := ∃ r : V → V → Hp → VK → Prop, InOp X op r ∧ OpD X.K r q
theorem ip_add_d {X : Cx} : IpD X .Add (fun x y G Q => match x, y with
  | .int i, .int j => Q (.int (i + j)) G
  | .str a, .str b => a.length + b.length ≤ sizeLine ∧ Q (.str (a ++ b)) G
  | _, _ => False) := by
  refine ⟨fun x y H Q => rAdd x y H Q ∨ (∃ i j, x = .str i ∧ y = .str j ∧ i.length + j.length ≤ sizeLine ∧ Q (.str (i ++ j)) H), ?_, ?_⟩
  · intro pn s σ H x y u v Q I rx ry h
    rcases h with h | h
    · exact in_add pn s σ H x y u v Q I rx ry h
    · exact iop_add_str pn s σ H x y u v Q I rx ry h
  · intro H G x y v u Q Qv rx ry rh h pv
    cases x with
    | int i =>
      cases y with
      | int j => cases rx; cases ry; exact .inl ⟨i, j, rfl, rfl, pv.here (.int _) rh h⟩
      | _ => exact h.elim
    | str i =>
      cases y with
      | str j => cases rx; cases ry; exact .inr ⟨i, j, rfl, rfl, h.1, pv.here (.str _) rh h.2⟩
      | _ => exact h.elim
    | _ => exact h.elim
section
variable {X : Cx} {W : WX} {e : Expr} {te tv to : TED} {pos pos' : Pos} {op : Operator} {q : R2D}
theorem js_aug {i : Nat} {x : Str} (hN : X.N.Nodup) (hi : X.N[i]? = some x) (hx : Loc X.env.scope x) (he : PE X e (LE X.K te W)) (hq : IpD X op q) (hf : X.fn x = true ∨ X.env.scope.names.lookup x = some .local) : PS X (.AugAssign (.Name x pos') op e pos) (LSt X.K (sAug i te q) W) := by
  obtain ⟨r, h1, h2⟩ := hq
  refine PS.imp (ps_aug hN hi hx he (ti := fun x y H Q => r x y H Q) (fun pn s σ H x y v u Q I r1 r2 h => h1 pn s σ H x y v u Q I r1 r2 h) hf) fun Dv σv H ⟨σ, G, D, rs, rh, h, pe⟩ => ?_
  unfold sAug at h
  cases e1 : σ[i]? with
  | none => rw [e1] at h; exact h.elim
  | some o =>
    cases o with
    | none => rw [e1] at h; exact h.elim
    | some d =>
      rw [e1] at h
      obtain ⟨v, e2, rd⟩ := rs.2 i d e1
      refine ⟨v, e2, σ, G, _, _, rs, rh, h, fun y w G1 H1 k1 ry rh1 q1 => ?_, pe.px rs⟩
      exact h2 H1 G1 d y v w _ _ (rd.keep k1) ry rh1 q1 fun z zv G2 H2 k2 rz rh2 q2 => pe.nx _ G2 _ H2 (k1.trans k2) ((rs.keep (k1.trans k2)).set i rz) rh2 q2
theorem js_fldaug {o : Expr} {f : Str} (ok : AttOk X.K) (ho : PE X o (LE X.K to W)) (hv : PE X e (LE X.K tv W)) (hq : IpD X op q) : PS X (.AugAssign (.Attribute o f pos') op e pos) (LSt X.K (sFldAug to tv q f) W) := by
  obtain ⟨r, h1, h2⟩ := hq
  refine PS.imp (ps_fldaug ho hv h1) fun Dv σv H ⟨σ, G, D, rs, rh, h, pe⟩ => ⟨σ, G, _, _, rs, rh, h, fun x v G1 H1 k1 rx rh1 q1 => ?_, pe.px rs⟩
  cases x with
  | ref a =>
    cases rx
    obtain ⟨c, fs, d, e1, hat, el, q⟩ := q1
    obtain ⟨dx, gs, e3, rf⟩ := rh1 a _ e1
    obtain ⟨k3, k4⟩ := ok c f hat
    obtain ⟨w, e4, rd⟩ := rf.look el
    refine ⟨a, _, dx, gs, w, rfl, e3, k3, k4, e4, σ, G1, _, _, rs.keep k1, rh1, q, fun y u G2 H2 k2 ry rh2 q2 => ?_, (pe.keep k1).px (rs.keep k1)⟩
    refine h2 H2 G2 d y w u _ _ (rd.keep k2) ry rh2 q2 fun z zv G3 H3 kk3 rz rh3 q3 => ?_
    obtain ⟨c', fs', e5, ec, hl, q⟩ := q3
    subst ec
    obtain ⟨dx', gs', e6, rf'⟩ := rh3 a _ e5
    have tk : Tk X.K H3 (L2.upd H3 a (.ins (He.ga X.K (T.cn c')) dx' (putF f zv gs'))) := Tk.ins e6
    exact ⟨dx', gs', e6, by rw [← rf'.len]; exact hl, pe.nx σ _ σv _ (((k1.trans k2).trans kk3).trans tk) (rs.keep (((k1.trans k2).trans kk3).trans tk)) (rh3.set_ins e6 rfl (RF.put rz rf')) q⟩
  | _ => exact q1.elim
end
/-! ### loops -/
def forLoop (ok : Hd → Prop) (one : D → St → Hd → (St → Hd → Prop) → Prop) (nx : St → Hd → Prop) : List D → St → Hd → Prop
  | [], σ, G => ok G ∧ nx σ G
  | d :: ds, σ, G => ok G ∧ one d σ G (forLoop ok one nx ds)
def forOne (g : TGD) (tb : TSD) (D : En) : Y.D → St → Hd → (St → Hd → Prop) → Prop := fun d σ G k => g d σ G fun σ2 G2 => tb { D with nx := k, ct := k, bk := D.nx } σ2 G2
def sFor (it : TID) (g : TGD) (tb : TSD) : TSD := fun D σ G => it σ G (fun J G1 => forLoop J.ok (forOne g tb D) D.nx J.its σ G1) (D.x σ)
def whl (c : TTD) (tb : TSD) (D : En) : Nat → St → Hd → Prop
  | 0, _, _ => False
  | n + 1, σ, G => c σ G (fun b G1 => pick b (tb { D with nx := whl c tb D n, ct := whl c tb D n, bk := D.nx } σ G1) (D.nx σ G1)) (D.x σ)
def sWhl (c : TTD) (tb : TSD) : TSD := fun D σ G => ∃ n, whl c tb D n σ G
section
variable {X : Cx} {W : WX} {pos : Pos}
theorem js_for {tg iter : Expr} {body : List Stmt} {it : TID} {g : TGD} {tb : TSD} (hp : PassesOwn (model X.prog X.w) X.A X.env X.xe) (hc : X.calm = true) (hi : PI X tg iter (LI X.K it W)) (hg : PG X tg (LG X.K g)) (hb : PSs X body (LSt X.K tb W))
    (hs : ∀ x, foldedSetIterable iter X.env x = pure x) : PS X (.For tg iter body [] pos) (LSt X.K (sFor it g tb) W) := by
  refine PS.imp (ps_for hp hc hi hg hb hs) fun Dv σv H ⟨σ, G, D, rs, rh, h, pe⟩ => ⟨σ, G, _, _, rs, rh, h, fun J j G1 H1 k1 ri rh1 q1 => ?_, pe.px rs⟩
  refine ⟨fun i m σv' H' => ∃ σ' G', Tk X.K H1 H' ∧ RS X.K H' σ' σv' ∧ RH X.K G' H' ∧ m = J.its.length - i ∧ i ≤ J.its.length ∧ forLoop J.ok (forOne g tb D) D.nx (J.its.drop i) σ' G', ⟨_, σ, G1, Tk.refl _, rs.keep k1, rh1, rfl, Nat.zero_le _, q1⟩, ?_⟩
  rintro i m σv' H' ⟨σ', G', k2, rs', rh', rfl, hi', q⟩
  by_cases hlt : i < J.its.length
  · have e : J.its.drop i = J.its[i] :: J.its.drop (i + 1) := List.drop_eq_getElem_cons hlt
    rw [e] at q
    obtain ⟨ok, q⟩ := q
    obtain ⟨g1, g2⟩ := ri.go H' G' i J.its[i] k2 rh' ok (by simp [hlt])
    refine .inr ⟨g1, fun σ'' H'' => ∃ s G'', Tk X.K H1 H'' ∧ RS X.K H'' s σ'' ∧ RH X.K G'' H'' ∧ forLoop J.ok (forOne g tb D) D.nx (J.its.drop (i + 1)) s G'', fun σ'' H'' ⟨s, G'', a1, a2, a3, a4⟩ => ⟨J.its.length - (i + 1), by omega, s, G'', a1, a2, a3, rfl, hlt, a4⟩, fun x H'' y => ?_⟩
    obtain ⟨t1, t2, t3⟩ := g2 x H'' y
    refine ⟨J.its[i], σ', G', _, t2, rs'.keep t1, t3, q, fun σ2 G2 σv2 H2 k3 rs2 rh2 q2 => ⟨σ2, G2, _, rs2, rh2, q2, ?_⟩⟩
    have kk : Tk X.K H1 H2 := (k2.trans t1).trans k3
    refine ⟨fun σ3 G3 σv3 H3 k4 rs3 rh3 q3 => ⟨σ3, G3, kk.trans k4, rs3, rh3, q3⟩, pe.rt.keep (k1.trans kk), pe.nx.keep (k1.trans kk), fun σ3 G3 σv3 H3 k4 rs3 rh3 q3 => ⟨σ3, G3, kk.trans k4, rs3, rh3, q3⟩, (pe.keep (k1.trans kk)).ex⟩
  · have e : i = J.its.length := by omega
    subst e
    rw [List.drop_length] at q
    exact .inl ⟨ri.stop H' G' k2 rh' q.1, pe.nx σ' G' σv' H' (k1.trans k2) rs' rh' q.2⟩
theorem js_whl {c : Expr} {body : List Stmt} {tc : TTD} {tb : TSD} (hp : PassesOwn (model X.prog X.w) X.A X.env X.xe) (hc : PT X c (LT X.K tc W)) (hb : PSs X body (LSt X.K tb W)) : PS X (.While c body [] pos) (LSt X.K (sWhl tc tb) W) := by
  refine PS.imp (ps_while hp hc hb) fun Dv σv H ⟨σ, G, D, rs, rh, ⟨n, h⟩, pe⟩ => ?_
  refine ⟨fun m σv' H' => ∃ σ' G', Tk X.K H H' ∧ RS X.K H' σ' σv' ∧ RH X.K G' H' ∧ whl tc tb D m σ' G', ⟨n, σ, G, Tk.refl _, rs, rh, h⟩, ?_⟩
  rintro m σv' H' ⟨σ', G', k1, rs', rh', q⟩
  cases m with
  | zero => exact q.elim
  | succ m =>
    refine ⟨σ', G', _, _, rs', rh', q, fun b G1 H1 k2 rh1 q1 => ?_, (pe.keep k1).px rs'⟩
    cases b with
    | true =>
      refine ite_tt ⟨fun σ'' H'' => ∃ s G'', Tk X.K H H'' ∧ RS X.K H'' s σ'' ∧ RH X.K G'' H'' ∧ whl tc tb D m s G'', fun σ'' H'' ⟨s, G'', a1, a2, a3, a4⟩ => ⟨m, Nat.lt_succ_self m, s, G'', a1, a2, a3, a4⟩, ?_⟩
      have q1' : tb { D with nx := whl tc tb D m, ct := whl tc tb D m, bk := D.nx } σ' G1 := q1
      have kk := k1.trans k2
      exact ⟨σ', G1, _, rs'.keep k2, rh1, q1', ⟨fun σ3 G3 σv3 H3 k4 rs3 rh3 q3 => ⟨σ3, G3, kk.trans k4, rs3, rh3, q3⟩, pe.rt.keep kk, pe.nx.keep kk, fun σ3 G3 σv3 H3 k4 rs3 rh3 q3 => ⟨σ3, G3, kk.trans k4, rs3, rh3, q3⟩, (pe.keep kk).ex⟩⟩
    | false => exact ite_ff (pe.nx σ' G1 σv' H1 (k1.trans k2) (rs'.keep k2) rh1 q1)
end
/-! ### [e for t in it if c] -/
def lcLoop (ok : Hd → Prop) (one : D → Hd → (Hd → Prop) → Prop) (fin : Hd → Prop) : List D → Hd → Prop
  | [], G => ok G ∧ fin G
  | d :: ds, G => ok G ∧ one d G (lcLoop ok one fin ds)
/-- a comprehension's target: a name, or names in a tuple -/
inductive Ct where
  | nm (i : Nat)
  | tp (is : List Nat)
def Ct.ix : Ct → List Nat
  | .nm i => [i]
  | .tp is => is
def setsD (σ : St) : List Nat → List D → St
  | i :: is, d :: ds => setsD (σ.set i (some d)) is ds
  | _, _ => σ
def setsV (σ : L2.St) : List Nat → List V → L2.St
  | i :: is, d :: ds => setsV (σ.set i (some d)) is ds
  | _, _ => σ
def ctD (c : Ct) (d : D) (σ : St) (k : St → Prop) : Prop := match c, d with
  | .nm i, d => k (σ.set i (some d))
  | .tp is, .tup ds => ds.length = is.length ∧ k (setsD σ is ds)
  | _, _ => False
def gIs : List Nat → TGs
  | [] => gNil
  | i :: is => gCons (gName i) (gIs is)
def vCt (K : PySem.W.Frag) : Ct → TG
  | .nm i => gName i
  | .tp is => gTup K is.length (gIs is)
theorem gIs_ok {H : Hp} {Q : L2.St → Hp → Prop} : ∀ (is : List Nat) (xs : List V) (σ : L2.St), xs.length = is.length → Q (setsV σ is xs) H → gIs is xs σ H Q
  | [], [], _, _, h => ⟨rfl, h⟩
  | i :: is, x :: xs, σ, hl, h => ⟨x, xs, rfl, gIs_ok is xs (σ.set i (some x)) (by simpa using hl) h⟩
  | [], _ :: _, _, hl, _ => by simp at hl
  | _ :: _, [], _, hl, _ => by simp at hl
theorem wipe_get (σ : L2.St) : ∀ (vs : List Nat) (j : Nat), (wipe σ vs)[j]? = if j ∈ vs then (if j < σ.length then some none else none) else σ[j]?
  | [], j => by simp [wipe]
  | v :: vs, j => by
    unfold wipe
    rw [List.getElem?_set, wipe_get σ vs j, wipe_length]
    by_cases h : v = j
    · subst h; simp
    · have h' : ¬ j = v := fun e => h e.symm
      simp [h, h']
theorem setsV_get : ∀ (is : List Nat) (xs : List V) (σ : L2.St) (j : Nat), j ∉ is → (setsV σ is xs)[j]? = σ[j]?
  | [], _, _, _, _ => rfl
  | _ :: _, [], _, _, _ => rfl
  | i :: is, x :: xs, σ, j, h => by
    have h1 : ¬ i = j := fun e => h (by simp [e])
    have h2 : j ∉ is := fun e => h (by simp [e])
    show (setsV (σ.set i (some x)) is xs)[j]? = _
    rw [setsV_get is xs _ j h2, List.getElem?_set_ne h1]
theorem setsV_len : ∀ (is : List Nat) (xs : List V) (σ : L2.St), (setsV σ is xs).length = σ.length
  | [], _, _ => rfl
  | _ :: _, [], _ => rfl
  | i :: is, x :: xs, σ => by
    show (setsV (σ.set i (some x)) is xs).length = _
    rw [setsV_len, List.length_set]
theorem wipe_sets {σ : L2.St} {vs is : List Nat} {xs : List V} (h : ∀ i ∈ is, i ∈ vs) : wipe (setsV (wipe σ vs) is xs) vs = wipe σ vs := by
  refine List.ext_getElem? fun j => ?_
  rw [wipe_get, wipe_get]
  by_cases hj : j ∈ vs
  · simp [hj, setsV_len, wipe_length]
  · rw [if_neg hj, if_neg hj, setsV_get is xs _ j fun z => hj (h j z), wipe_get, if_neg hj]
theorem RS.sets {K : PySem.W.Frag} {H : Hp} : ∀ {is : List Nat} {ds : List D} {vs : List V} {σ : St} {σv : L2.St}, RS K H σ σv → RDs K H ds vs → RS K H (setsD σ is ds) (setsV σv is vs)
  | [], _, _, _, _, h, _ => h
  | _ :: _, [], _, _, _, h, r => by cases r; exact h
  | i :: is, d :: ds, _, _, _, h, r => by
    cases r with
    | cons r1 r2 => exact RS.sets (is := is) (h.set i r1) r2
/-- one item: p the new list -/
def lcOne (c : Ct) (tt : TTD) (te : TED) (vs : List Nat) (σ : St) (p : Addr) : D → Hd → (Hd → Prop) → Prop := fun d G k => ctD c d (wipeD σ vs) fun σ2 => tt σ2 G (fun b G3 =>
  pick b (te σ2 G3 (fun y G4 => ∃ acc, G4 p = some (.lst acc) ∧ acc.length < sizeLine ∧ k (up G4 p (.lst (acc ++ [y])))) (fun _ _ _ => False)) (k G3)) (fun _ _ _ => False)
def tLcD (it : TID) (c : Ct) (tt : TTD) (te : TED) (vs : List Nat) : TED := fun σ G Q E => it σ G (fun J G1 => ∀ p, G1 p = none → lcLoop J.ok (lcOne c tt te vs σ p) (fun G2 => Q (.ref p) G2) J.its (up G1 p (.lst []))) E
def tYesD : TTD := fun _ G Q _ => Q true G
abbrev noW : WX := fun _ _ _ _ => False
theorem lc_imp {K : PySem.W.Frag} {W : WX} {it : TID} {c : Ct} {tt : TTD} {te : TED} {vs : List Nat} (hsub : ∀ i ∈ c.ix, i ∈ vs) : ∀ σ H Q, LE K (tLcD it c tt te vs) W σ H Q → tLc (LI K it W) (vCt K c) (LT K tt noW) (LE K te noW) vs σ H Q := by
  rintro σv H Qv ⟨σ, G, Q, E, rs, rh, h, pv, px⟩
  refine ⟨σ, G, _, E, rs, rh, h, fun J j G1 H1 k1 ri rh1 q1 => ?_, px⟩
  intro p hp
  have rh2 : RH K (up G1 p (.lst [])) (L2.upd H1 p (.lst [])) := rh1.new_lst hp .nil
  have t1 : Tk K H1 (L2.upd H1 p (.lst [])) := Tk.new hp
  refine ⟨fun i m H' => ∃ G', Tk K H1 H' ∧ RH K G' H' ∧ m = J.its.length - i ∧ i ≤ J.its.length ∧ lcLoop J.ok (lcOne c tt te vs σ p) (fun G2 => Q (.ref p) G2) (J.its.drop i) G', ⟨_, _, t1, rh2, rfl, Nat.zero_le _, q1 p (rh1.none hp)⟩, ?_⟩
  rintro i m H' ⟨G', k2, rh', rfl, hi', q⟩
  by_cases hlt : i < J.its.length
  · have e : J.its.drop i = J.its[i] :: J.its.drop (i + 1) := List.drop_eq_getElem_cons hlt
    rw [e] at q
    obtain ⟨ok, q⟩ := q
    obtain ⟨g1, g2⟩ := ri.go H' G' i J.its[i] k2 rh' ok (by simp [hlt])
    refine .inr ⟨g1, fun H'' => ∃ G'', Tk K H1 H'' ∧ RH K G'' H'' ∧ lcLoop J.ok (lcOne c tt te vs σ p) (fun G2 => Q (.ref p) G2) (J.its.drop (i + 1)) G'', fun H'' ⟨G'', a1, a2, a4⟩ => ⟨J.its.length - (i + 1), by omega, G'', a1, a2, rfl, hlt, a4⟩, fun x H'' y => ?_⟩
    obtain ⟨t3, t4, t5⟩ := g2 x H'' y
    have rsw : RS K H'' (wipeD σ vs) (wipe σv vs) := (rs.keep ((k1.trans k2).trans t3)).wipe vs
    -- behind the target
    have next : ∀ (σ2 : St) (σv2 : L2.St), RS K H'' σ2 σv2 → (tt σ2 G' (fun b G3 => pick b (te σ2 G3 (fun y G4 => ∃ acc, G4 p = some (.lst acc) ∧ acc.length < sizeLine ∧ lcLoop J.ok (lcOne c tt te vs σ p) (fun G2 => Q (.ref p) G2) (J.its.drop (i + 1)) (up G4 p (.lst (acc ++ [y])))) (fun _ _ _ => False)) (lcLoop J.ok (lcOne c tt te vs σ p) (fun G2 => Q (.ref p) G2) (J.its.drop (i + 1)) G3)) (fun _ _ _ => False)) →
        LT K tt noW σv2 H'' fun b H3 => if b = true then LE K te noW σv2 H3 fun y H4 => ∃ acc, H4 p = some (.lst acc) ∧ acc.length < sizeLine ∧ ∃ G'', Tk K H1 (L2.upd H4 p (.lst (acc ++ [y]))) ∧ RH K G'' (L2.upd H4 p (.lst (acc ++ [y]))) ∧ lcLoop J.ok (lcOne c tt te vs σ p) (fun G2 => Q (.ref p) G2) (J.its.drop (i + 1)) G''
          else ∃ G'', Tk K H1 H3 ∧ RH K G'' H3 ∧ lcLoop J.ok (lcOne c tt te vs σ p) (fun G2 => Q (.ref p) G2) (J.its.drop (i + 1)) G'' := fun σ2 σv2 rs2 q2 => by
      refine ⟨σ2, G', _, _, rs2, t5, q2, fun b G3 H3 k3 rh3 q3 => ?_, fun _ _ _ _ _ _ _ _ _ z => z⟩
      cases b with
      | true =>
        refine ite_tt ⟨σ2, G3, _, _, rs2.keep k3, rh3, q3, fun y v G4 H4 k4 ry rh4 q4 => ?_, fun _ _ _ _ _ _ _ _ _ z => z⟩
        obtain ⟨acc, e4, hl, q5⟩ := q4
        obtain ⟨us, f4, r4⟩ := rh4 p _ e4
        exact ⟨us, f4, by rw [← r4.len]; exact hl, _, (((k2.trans t3).trans k3).trans k4).trans (Tk.lst f4), rh4.set_lst f4 (r4.app (.one ry)), q5⟩
      | false => exact ite_ff ⟨G3, (k2.trans t3).trans k3, rh3, q3⟩
    cases c with
    | nm n =>
      refine ⟨wipe_sets (is := [n]) (xs := [x]) hsub, ?_⟩
      exact next _ _ (rsw.set n t4) q
    | tp is =>
      generalize J.its[i] = di at q t4
      cases di with
      | tup ds =>
        obtain ⟨hl, q⟩ := q
        cases t4 with
        | tup s r =>
          refine ⟨_, _, rfl, s, by rw [← r.len]; exact hl, gIs_ok _ _ _ (by rw [← r.len]; exact hl) ⟨wipe_sets hsub, ?_⟩⟩
          exact next _ _ (rsw.sets r) q
      | _ => exact q.elim
  · have e : i = J.its.length := by omega
    subst e
    rw [List.drop_length] at q
    exact .inl ⟨ri.stop H' G' k2 rh' q.1, pv _ _ G' H' (k1.trans k2) (.ref p) rh' q.2⟩
section
variable {X : Cx} {W : WX} {elt tg iter : Expr} {ifs : List Expr} {scope : Scope} {own : List (Str × Nat)} {pos : Pos} {it : TID} {c : Ct} {tt : TTD} {te : TED}
theorem je_lc (hc : X.calm = true) (hN : X.N.Nodup) (hi : PI X tg iter (LI X.K it W)) (ok : BlkOk X.N X.env.scope scope own) (hsub : ∀ i ∈ c.ix, i ∈ own.map (·.2))
    (hg : ∀ (s : Shared) (H : Hp) (C : Addr) (cl : List (Str × Addr)) (fp : List Addr), PG (X.blk s H scope (compEnvC scope cl C X.env) fp) tg (vCt X.K c)) (ht : ∀ (s : Shared) (H : Hp) (C : Addr) (cl : List (Str × Addr)) (fp : List Addr), PTs (X.blk s H scope (compEnvC scope cl C X.env) fp) ifs (LT X.K tt noW))
    (he : ∀ (s : Shared) (H : Hp) (C : Addr) (cl : List (Str × Addr)) (fp : List Addr), PE (X.blk s H scope (compEnvC scope cl C X.env) fp) elt (LE X.K te noW)) (hs : ∀ x, foldedSetIterable iter X.env x = pure x) :
    PE X (.ListComp elt [⟨tg, iter, ifs, 0⟩] scope pos) (LE X.K (tLcD it c tt te (own.map (·.2))) W) :=
  PE.imp (pe_lc hc hN hi ok hg ht he hs) (lc_imp hsub)
theorem js_setLc {i : Nat} {y : Str} {py spos : Pos} (hc : X.calm = true) (hN : X.N.Nodup) (hy : X.N[i]? = some y) (hyl : X.env.scope.names.lookup y = some .local)
    (hsw : swapsWith (.ListComp elt [⟨tg, iter, ifs, 0⟩] scope pos) (some (.Name y py)) spos.line X.env = pure true) (hi : PI X tg iter (LI X.K it W)) (ok : BlkOk X.N X.env.scope scope own) (hsub : ∀ i ∈ c.ix, i ∈ own.map (·.2))
    (hg : ∀ (s : Shared) (H : Hp) (C : Addr) (cl : List (Str × Addr)) (fp : List Addr), PG (X.blk s H scope (compEnvC scope cl C X.env) fp) tg (vCt X.K c)) (ht : ∀ (s : Shared) (H : Hp) (C : Addr) (cl : List (Str × Addr)) (fp : List Addr), PTs (X.blk s H scope (compEnvC scope cl C X.env) fp) ifs (LT X.K tt noW))
    (he : ∀ (s : Shared) (H : Hp) (C : Addr) (cl : List (Str × Addr)) (fp : List Addr), PE (X.blk s H scope (compEnvC scope cl C X.env) fp) elt (LE X.K te noW)) (hs : ∀ x, foldedSetIterable iter X.env x = pure x) :
    PS X (.Assign [.Name y py] (.ListComp elt [⟨tg, iter, ifs, 0⟩] scope pos) spos) (LSt X.K (sAsg (tLcD it c tt te (own.map (·.2))) (gNm i)) W) :=
  PS.imp (ps_setLc hc hN hy hyl hsw hi ok hg ht he hs) fun Dv σv H ⟨σ, G, D, rs, rh, h, pe⟩ =>
    lc_imp hsub σv H _ ⟨σ, G, _, _, rs, rh, h, fun d v G' H' k r rh' q => pe.nx _ G' _ H' k ((rs.keep k).set i r) rh' q, pe.px rs⟩
theorem jts_nil : PTs X [] (LT X.K tYesD noW) := ⟨fun pn s σv H Qv I ⟨σ, G, Q, E, rs, rh, h, pv, px⟩ => pts_nil.run pn s σv H Qv I (pv true G H (Tk.refl H) rh h)⟩
end
end Y

/-! YX: exceptions: raise, try. -/
namespace Y
open PySem PySem.Spec PyProof.Rows L2
variable [T : Tab]
/-- what the head tells of the exceptions' classes -/
structure ExOk (K : PySem.W.Frag) (mg : Str → Option Value) : Prop where
  mkE : ∀ x c, T.exc x = some c → mg x = some (.ref (He.ga K (T.cn c))) ∧ PySem.W.excIn K (He.ga K (T.cn c)) He.veBase "ValueError.__new__" = true ∧ PySem.W.keepIn K (.ref (He.ga K (T.cn c))) = true ∧
    PySem.W.subIn K (.ref (He.ga K (T.cn c))) (.type "BaseException") = some true ∧ PySem.W.typeIn K (.ref (He.ga K (T.cn c))) = some (.type "type")
  nm : ∀ x, T.exq x = true → ∃ (v : V) (cv : Value), (mg x = some cv ∨ (mg x = none ∧ bootBuiltins x = some cv ∧ x ≠ "__name__")) ∧ RelV v cv ∧ (∀ u, RelV v u → u = cv) ∧
    ∀ c b, T.exm c x = some b → PySem.W.exmOne K (.ref (He.ga K (T.cn c))) cv = some b ∧ PySem.W.kitOne K (.ref (He.ga K (T.cn c))) cv = some b ∧ ExcC K (He.ga K (T.cn c))
/-! ### raise -/
def sRaise (c : Nat) : TSD := fun D σ G => D.ex c [] σ G
section
variable {X : Cx} {W : WX} {pos : Pos}
theorem js_raise {x m : Str} {c j : Nat} {p p2 pos' : Pos} (eo : ExOk X.K X.mg) (hc : X.calm = true) (tk : Takes X W) (h : T.exc x = some c) (hg : Gl X x) (hdb : (x == ("__debug__" : Str)) = false) :
    PS X (.Raise (some (.Call (.Name x p) [.Constant (.str m) j p2] [] pos')) none pos) (LSt X.K (sRaise c) W) := by
  obtain ⟨e1, e2, e3, e4, e5⟩ := eo.mkE x c h
  exact PS.imp (ps_raise hc tk (pmk_own PySem.F.excBase_ValueError e2 e1 e3 (raises_own e4 e5) hg hdb)) fun Dv σv H ⟨σ, G, D, rs, rh, q, pe⟩ => pe.ex c [] _ none σ G σv H (Tk.refl H) ⟨rfl, .inl ⟨rfl, rfl⟩⟩ rs rh q
/-! ### try .. except x as n -/
def sTryAs (x : Str) (i : Nat) (tb : TSD) (ts : Nat → Addr → TSD) : TSD := fun D σ G => tb { D with ex := fun c fs σ' G' =>
  (T.exm c x = some true ∧ fs = [] ∧ ∀ a, G' a = none → ts c a { nx := fun σ G => D.nx (σ.set i none) G, rt := D.rt, bk := fun σ G => D.bk (σ.set i none) G, ct := fun σ G => D.ct (σ.set i none) G, ex := fun _ _ _ _ => False } (σ'.set i (some (.ref a))) G') ∨
  (T.exm c x = some false ∧ D.ex c fs σ' G') } σ G
/-- the suite's reading, over the layer -/
def tSu (K : PySem.W.Frag) (ts : Nat → Addr → TSD) : Addr → Value → Option Addr → TS := fun a cls d Dv σv H => ∃ k, T.exm k = T.exm k ∧ cls = .ref (He.ga K (T.cn k)) ∧ d = none ∧ LSt K (ts k a) noW Dv σv H
theorem js_tryas {x n : Str} {i : Nat} {body suite : List Stmt} {b₀ : Stmt} {np pos' : Pos} {tb : TSD} {ts : Nat → Addr → TSD} (eo : ExOk X.K X.mg) (hs : X.stack = X.env :: X.outer) (hf : X.env.frame = some X.env.locals) (hN : X.N.Nodup) (hi : X.N[i]? = some n) (hln : X.env.kindOf n = some .local)
    (hg : Gl X x) (hdb : (x == ("__debug__" : Str)) = false) (tk : Takes X W) (any : T.exq x = true)
    (hb : ∀ (W : WX) (pn : List (Addr × Obj)) (xe : Value → Shared → Prop), Takes (X.tr pn xe) W → PassesOwn (model X.prog X.w) X.A X.env xe → PSs (X.tr pn xe) body (LSt X.K tb W))
    (hsu : ∀ (k : Nat) (a : Addr) (oe : Obj) (pn : List (Addr × Obj)), Zc (.ref (He.ga X.K (T.cn k))) none oe → (∃ vs, oe.data = .fields vs) → PSs (X.suite a ((a, oe) :: pn)) (b₀ :: suite) (LSt X.K (ts k a) noW)) :
    PS X (.Try body [.ExceptHandler (some (.Name x np)) (some n) (b₀ :: suite) pos'] [] [] pos) (LSt X.K (sTryAs x i tb ts) W) := by
  obtain ⟨v, cv, m1, _, r2, hx⟩ := eo.nm x any
  have nm : Names X x cv := ⟨hg, hdb, m1⟩
  refine PS.imp (ps_try_as (ts := tSu X.K ts) hs hf hN hi hln nm tk hb fun a oe cls d pn hz hfl => ?_) fun Dv σv H ⟨σ, G, D, rs, rh, q, pe⟩ => ?_
  · refine ⟨fun pins s σ H D I ⟨k, _, e1, e2, h⟩ => ?_⟩
    subst e1 e2
    exact (hsu k a oe pn hz hfl).run pins s σ H D I h
  · refine ⟨σ, G, _, rs, rh, q, ⟨pe.nx, pe.rt, pe.bk, pe.ct, fun c fs cls dd σ' G' σv' H' k rx rs' rh' e => ?_⟩⟩
    obtain ⟨ec, rx2⟩ := rx
    rcases e with ⟨e1, e2, e3⟩ | ⟨e1, e2⟩
    · obtain ⟨x1, _⟩ := hx c true e1
      refine ⟨true, by rw [ec]; exact x1, fun _ a ha => ?_, fun z => by cases z⟩
      have edd : dd = none := by
        rcases rx2 with ⟨_, z⟩ | ⟨z, _⟩
        · exact z
        · exact absurd e2 z
      exact ⟨c, rfl, ec, edd, _, G', _, rs'.set i (.ref a), rh', e3 a (rh'.none ha), ⟨fun σ2 G2 σv2 H2 k2 rs2 rh2 q2 => pe.nx _ G2 _ H2 (k.trans k2) (rs2.unset i) rh2 q2, pe.rt.keep k, fun σ2 G2 σv2 H2 k2 rs2 rh2 q2 => pe.bk _ G2 _ H2 (k.trans k2) (rs2.unset i) rh2 q2, fun σ2 G2 σv2 H2 k2 rs2 rh2 q2 => pe.ct _ G2 _ H2 (k.trans k2) (rs2.unset i) rh2 q2, fun _ _ _ _ _ _ _ _ _ _ _ _ z => z.elim⟩⟩
    · obtain ⟨x1, _⟩ := hx c false e1
      exact ⟨false, by rw [ec]; exact x1, fun z => (by cases z), fun _ => pe.ex c fs cls dd σ' G' σv' H' k ⟨ec, rx2⟩ rs' rh' e2⟩
/-! ### isinstance in a suite -/
def tIsE (k : Nat) (a : Addr) (x : Str) (te : TED) : TED := fun σ G Q E => te σ G (fun y G1 => match y with
  | .ref a' => a' = a ∧ ∃ b, T.exm k x = some b ∧ Q (.bl b) G1
  | _ => False) E
theorem je_isE {x : Str} {k : Nat} {a : Addr} {oe : Obj} {pn : List (Addr × Obj)} {o : Expr} {te : TED} {p p2 : Pos} (eo : ExOk X.K X.mg) (any : T.exq x = true) (hz : Zc (.ref (He.ga X.K (T.cn k))) none oe) (hf : ∃ vs, oe.data = .fields vs)
    (hg : Gl X "isinstance") (hm : X.mg "isinstance" = none) (hgx : Gl X x) (hdx : (x == ("__debug__" : Str)) = false) (he : PE (X.suite a ((a, oe) :: pn)) o (LE X.K te noW))
    (hs : starEach (o :: [.Name x p2]) X.env = (false, eval o X.env) :: starEach [.Name x p2] X.env) : PE (X.suite a ((a, oe) :: pn)) (.Call (.Name "isinstance" p) [o, .Name x p2] [] pos) (LE X.K (tIsE k a x te) noW) := by
  obtain ⟨v, cv, m1, r1, r2, fx⟩ := eo.nm x any
  have hx : PE (X.suite a ((a, oe) :: pn)) (.Name x p2) (tC v) := by
    rcases m1 with m1 | ⟨m1, m2, m3⟩
    · exact pe_glob (X := X.suite a ((a, oe) :: pn)) hgx m1 r1 hdx
    · exact pe_bltn (X := X.suite a ((a, oe) :: pn)) hgx m1 m2 r1 m3 hdx
  cases h0 : T.exm k x with
  | none =>
    refine PE.imp (pe_callB (X := X.suite a ((a, oe) :: pn)) (id := "isinstance") (r := fun _ _ _ => False) (fun _ _ _ _ _ _ _ _ _ z => z.elim) hg hm (by decide +kernel) (pa_cons he (pa_cons hx pa_nil rfl) hs) (by decide) (by decide) hs rfl) fun σv H Qv ⟨σ, G, Q, E, rs, rh, h, pv, px⟩ => ?_
    refine ⟨σ, G, _, E, rs, rh, h, fun y u G1 H1 k1 rx rh1 q1 => ?_, px⟩
    cases y with
    | ref a' => obtain ⟨_, b, e1, _⟩ := q1; rw [h0] at e1; cases e1
    | _ => exact q1.elim
  | some b0 =>
    obtain ⟨_, kb, ec⟩ := fx k b0 h0
    refine PE.imp (pe_callB (X := X.suite a ((a, oe) :: pn)) (call_isE ec hz hf) hg hm (by decide +kernel) (pa_cons he (pa_cons hx pa_nil rfl) hs) (by decide) (by decide) hs rfl) fun σv H Qv ⟨σ, G, Q, E, rs, rh, h, pv, px⟩ => ?_
    refine ⟨σ, G, _, E, rs, rh, h, fun y u G1 H1 k1 rx rh1 q1 => ?_, px⟩
    cases y with
    | ref a' =>
      cases rx
      obtain ⟨rfl, b, e1, q⟩ := q1
      rw [h0] at e1
      cases e1
      exact ⟨v, cv, _, rfl, r2, kb, pv _ _ G1 H1 k1 (.bl _) rh1 q⟩
    | _ => exact q1.elim
end
end Y

/-! Y9: from the text to readings: a compiler with a proof. Expressions. -/
namespace Y
open PySem PySem.Spec PyProof.Rows L2
variable [T : Tab]

/-- where an expression stands: the frame's names, the block's scope, which names may be stored to -/
structure Cc where
  N : List Str
  sc : Scope
  fn : Str → Bool
def blts : List Str := ["len", "range", "int", "str", "max", "min", "sum", "any", "all", "ord", "tuple", "list", "repr", "isinstance", "bool"]
/-- what holds of the callees and the module, whatever the block -/
structure Fx (n : Nat) (Γ : Nat → SpD) (X : Cx) : Prop where
  rb : Rb n X.A
  calm : X.calm = true
  nd : X.N.Nodup
  att : AttOk X.K
  mo : MethOk X n Γ
  mkO : MakeOk X n Γ
  cl : ∀ x na ks i dv, T.call x na ks = some (i, dv) → ∃ f fd ps, X.mg x = some (.ref f) ∧ PySem.W.keepIn X.K (.ref f) = true ∧ FnG X.prog X.w X.K X.mg X.base n f fd ps (LS X.K (Γ i)) ∧ ∀ H, ∃ dvs, RDs X.K H dv dvs ∧ BdOk X.K fd ps na ks dvs
  gl : ∀ x d, T.glob x = some d → ∃ v u, X.mg x = some u ∧ RelV v u ∧ ∀ H, RD X.K H d v
  fr : ∀ x, x ∈ blts → X.mg x = none
  eo : ExOk X.K X.mg
structure Fits (n : Nat) (Γ : Nat → SpD) (c : Cc) (X : Cx) (W : WX) : Prop where
  toFx : Fx n Γ X
  N : X.N = c.N
  sc : X.env.scope = c.sc
  fn : ∀ x, c.fn x = true → X.fn x = true
  tk : Takes X W

theorem bS {α β : Type} {o : Option α} {f : α → Option β} {b : β} (h : o.bind f = some b) : ∃ a, o = some a ∧ f a = some b := by
  cases o with
  | none => cases h
  | some a => exact ⟨a, rfl, h⟩
theorem iS {α : Type} {c : Bool} {x : Option α} {b : α} (h : (if c = true then x else none) = some b) : c = true ∧ x = some b := by
  cases c with
  | false => cases h
  | true => exact ⟨rfl, h⟩
theorem mS {α β : Type} {o : Option α} {f : α → β} {b : β} (h : o.map f = some b) : ∃ a, o = some a ∧ f a = b := by
  cases o with
  | none => cases h
  | some a => exact ⟨a, rfl, Option.some.inj h⟩
/-! ### shapes -/
def isStar : Expr → Bool
  | .Starred .. => true
  | _ => false
theorem star_ok {e : Expr} {es : List Expr} {env : Env} (h : isStar e = false) : starEach (e :: es) env = (false, eval e env) :: starEach es env := by
  cases e <;> first | rfl | cases h
theorem aeach_ok {e : Expr} {es : List Expr} {env : Env} (h : isStar e = false) : assignEach (e :: es) env = (false, assign e env) :: assignEach es env := by
  cases e <;> first | rfl | cases h
theorem nostar : ∀ {es : List Expr} {env : Env}, es.all (fun e => !isStar e) = true → (starEach es env).all (fun x => !x.1) = true
  | [], _, _ => rfl
  | e :: es, env, h => by
    rw [List.all_cons, Bool.and_eq_true] at h
    rw [star_ok (by simpa using h.1), List.all_cons, nostar h.2]
    rfl
theorem noback {es : List Expr} {env : Env} {pos : Pos} (h : es.all (fun e => !isStar e) = true) : (backTo pos (starEach es env)).any (·.1) = false := by
  have := nostar (env := env) h
  unfold backTo
  rw [List.any_map]
  rw [List.all_eq_true] at this
  rw [List.any_eq_false]
  intro x hx
  have := this x hx
  simpa using this
def isCallSuper : Expr → Bool
  | .Call (.Name _ _) [] [] _ => true
  | _ => false
theorem base_ok {o : Expr} {m : Str} {env : Env} (h : isCallSuper o = false) : attributeBase o m env (eval o env) = eval o env := by
  unfold attributeBase
  split
  · cases h
  · rfl
def ixL : List Str → Str → Option Nat
  | [], _ => none
  | y :: ys, x => if decide (y = x) = true then some 0 else (ixL ys x).map (· + 1)
theorem ixL_ok : ∀ {N : List Str} {x : Str} {i : Nat}, ixL N x = some i → N[i]? = some x
  | [], _, _, h => by cases h
  | y :: ys, x, i, h => by
    unfold ixL at h
    split at h
    · rename_i e
      cases h
      rw [of_decide_eq_true e]
      rfl
    · obtain ⟨j, h1, h2⟩ := mS h
      subst h2
      have := ixL_ok h1
      simpa using this
def nodbg (x : Str) : Bool := !(x == ("__debug__" : Str)) && !(x == ("__classdict__" : Str)) && !(x == ("__name__" : Str))
theorem nodbg_ok {x : Str} (h : nodbg x = true) : (x == ("__debug__" : Str)) = false ∧ (x == ("__classdict__" : Str)) = false ∧ x ≠ "__name__" := by
  unfold nodbg at h
  simp only [Bool.and_eq_true, Bool.not_eq_true'] at h
  exact ⟨h.1.1, h.1.2, by simpa using h.2⟩
def isG (c : Cc) (x : Str) : Bool := match c.sc.names.lookup x with
  | some .globalImplicit => true
  | _ => false
def isVis (c : Cc) (x : Str) : Bool := match c.sc.names.lookup x with
  | some .local => true
  | some .cell => true
  | some .free => true
  | _ => false
section
variable {n : Nat} {Γ : Nat → SpD} {c : Cc} {X : Cx} {W : WX}
theorem isG_ok (F : Fits n Γ c X W) {x : Str} (h : isG c x = true) : Gl X x := by
  unfold isG at h
  show X.env.scope.names.lookup x = _
  rw [F.sc]
  cases e : c.sc.names.lookup x with
  | none => rw [e] at h; cases h
  | some k => rw [e] at h; cases k <;> first | rfl | cases h
theorem isVis_ok (F : Fits n Γ c X W) {x : Str} (h : isVis c x = true) : Vis X.env.scope x := by
  unfold isVis at h
  unfold Vis
  rw [F.sc]
  cases e : c.sc.names.lookup x with
  | none => rw [e] at h; cases h
  | some k => rw [e] at h; cases k <;> first | exact .inl rfl | exact .inr (.inl rfl) | exact .inr (.inr rfl) | cases h
end
/-! ### operators -/
def bopD : Operator → Option R2D
  | .Add => some oAdd
  | .Sub => some oSub
  | .Mult => some oMul
  | .FloorDiv => some oDiv
  | .Mod => some oMod
  | .Pow => some oPow
  | .BitAnd => some oAnd
  | _ => none
theorem bop_ok {X : Cx} {op : Operator} {q : R2D} (h : bopD op = some q) : ∃ r, OpR X (binaryOp op) r ∧ OpD X.K r q := by
  cases op <;> cases h
  · exact ⟨_, op_vAdd, oAdd_ok⟩
  · exact ⟨_, op_sub, oSub_ok⟩
  · exact ⟨_, op_vMul, oMul_ok⟩
  · exact ⟨_, op_mod, oMod_ok⟩
  · exact ⟨_, op_pow, oPow_ok⟩
  · exact ⟨_, op_and, oAnd_ok⟩
  · exact ⟨_, op_fdiv, oDiv_ok⟩
def oLt : R2D := oCmp fun i j => decide (i < j)
def oLe : R2D := oCmp fun i j => decide (i ≤ j)
def oGt : R2D := oCmp fun i j => decide (j < i)
def oGe : R2D := oCmp fun i j => decide (j ≤ i)
def copD : CmpOp → Option R2D
  | .Eq => some oEq
  | .NotEq => some oNe
  | .Lt => some oLt
  | .LtE => some oLe
  | .Gt => some oGt
  | .GtE => some oGe
  | .Is => some (oIs false)
  | .IsNot => some (oIs true)
  | .In => some (oIn false)
  | .NotIn => some (oIn true)
theorem cop_ok {X : Cx} (hu : X.A.units + 65 < cLine) {op : CmpOp} {q : R2D} (h : copD op = some q) : ∃ r, OpR X (compareOp op) r ∧ OpD X.K r q := by
  cases op <;> cases h
  · exact ⟨_, op_vEq (by omega), oEq_ok⟩
  · exact ⟨_, op_vNe (by omega), oNe_ok⟩
  · exact ⟨_, op_lt, oCmp_ok⟩
  · exact ⟨_, op_le, oCmp_ok⟩
  · exact ⟨_, op_gt, oCmp_ok⟩
  · exact ⟨_, op_ge, oCmp_ok⟩
  · exact ⟨_, op_vIs, oIs_ok⟩
  · exact ⟨_, op_vNot, oNot_ok⟩
  · exact ⟨_, op_vIn hu, oIn_ok⟩
  · exact ⟨_, op_vNotIn hu, oNotIn_ok⟩
/-! ### built-ins -/
abbrev QD := List D → Hd → KD → Prop
def bltF (x : Str) : Option (String × QD) :=
  if x = "len" then some ("len", oLen) else if x = "max" then some ("max", oMax) else if x = "min" then some ("min", oMin) else if x = "sum" then some ("sum", oSum) else
  if x = "any" then some ("any", oAny) else if x = "all" then some ("all", oAll) else if x = "ord" then some ("ord", oOrd) else if x = "repr" then some ("repr", oRepr) else none
def bltT (x : Str) : Option (String × QD) :=
  if x = "int" then some ("int", oInt) else if x = "str" then some ("str", oStr) else if x = "tuple" then some ("tuple", oTup) else if x = "list" then some ("list", oList) else none
section
variable {n : Nat} {Γ : Nat → SpD} {X : Cx}
theorem bltF_ok (F : Fx n Γ X) {x : Str} {id : String} {q : QD} (h : bltF x = some (id, q)) : (∃ r, CallR X (.builtin id) r ∧ CallD X.K r q) ∧ X.mg x = none ∧ bootBuiltins x = some (.builtin id) := by
  unfold bltF at h
  have hc := F.calm
  have hu := F.rb.u
  split at h
  · subst_vars; cases h; exact ⟨⟨_, call_len, oLen_ok⟩, F.fr _ (by decide), by decide +kernel⟩
  split at h
  · subst_vars; cases h; exact ⟨⟨_, call_vMax hc, oMax_ok⟩, F.fr _ (by decide), by decide +kernel⟩
  split at h
  · subst_vars; cases h; exact ⟨⟨_, call_vMin hc, oMin_ok⟩, F.fr _ (by decide), by decide +kernel⟩
  split at h
  · subst_vars; cases h; exact ⟨⟨_, cr_sum hc, oSum_ok⟩, F.fr _ (by decide), by decide +kernel⟩
  split at h
  · subst_vars; cases h; exact ⟨⟨_, cr_any hc, oAny_ok⟩, F.fr _ (by decide), by decide +kernel⟩
  split at h
  · subst_vars; cases h; exact ⟨⟨_, cr_all hc, oAll_ok⟩, F.fr _ (by decide), by decide +kernel⟩
  split at h
  · subst_vars; cases h; exact ⟨⟨_, call_ord, oOrd_ok⟩, F.fr _ (by decide), by decide +kernel⟩
  split at h
  · subst_vars; cases h; exact ⟨⟨_, call_vRepr F.rb.gd hu, oRepr_ok⟩, F.fr _ (by decide), by decide +kernel⟩
  cases h
theorem bltT_ok (F : Fx n Γ X) {x : Str} {id : String} {q : QD} (h : bltT x = some (id, q)) : (∃ r, CallR X (.type id) r ∧ CallD X.K r q) ∧ X.mg x = none ∧ bootBuiltins x = some (.type id) := by
  unfold bltT at h
  have hc := F.calm
  split at h
  · subst_vars; cases h; exact ⟨⟨_, call_vInt, oInt_ok⟩, F.fr _ (by decide), by decide +kernel⟩
  split at h
  · subst_vars; cases h; exact ⟨⟨_, call_vStr, oStr_ok⟩, F.fr _ (by decide), by decide +kernel⟩
  split at h
  · subst_vars; cases h; exact ⟨⟨_, call_tuple_of, oTup_ok⟩, F.fr _ (by decide), by decide +kernel⟩
  split at h
  · subst_vars; cases h; exact ⟨⟨_, call_list_of, oList_ok⟩, F.fr _ (by decide), by decide +kernel⟩
  cases h
end
def isiT (x : Str) : Option String := if x = "int" then some "int" else if x = "str" then some "str" else if x = "tuple" then some "tuple" else if x = "list" then some "list" else if x = "bool" then some "bool" else none
theorem isiT_ok {n : Nat} {Γ : Nat → SpD} {X : Cx} (F : Fx n Γ X) {x : Str} {m : String} (h : isiT x = some m) : m ∈ ["bool", "int", "str", "tuple", "list"] ∧ X.mg x = none ∧ bootBuiltins x = some (.type m) := by
  unfold isiT at h
  split at h
  · subst_vars; cases h; exact ⟨by decide, F.fr _ (by decide), by decide +kernel⟩
  split at h
  · subst_vars; cases h; exact ⟨by decide, F.fr _ (by decide), by decide +kernel⟩
  split at h
  · subst_vars; cases h; exact ⟨by decide, F.fr _ (by decide), by decide +kernel⟩
  split at h
  · subst_vars; cases h; exact ⟨by decide, F.fr _ (by decide), by decide +kernel⟩
  split at h
  · subst_vars; cases h; exact ⟨by decide, F.fr _ (by decide), by decide +kernel⟩
  cases h
end Y

/-! Y10: the compiler of expressions. -/
namespace Y
open PySem PySem.Spec PyProof.Rows L2
variable [T : Tab]

/-! ### methods of built-in types -/
def bmL (m : Str) : Option MD :=
  if m = "append" then some mAppend else if m = "extend" then some mExtend else if m = "pop" then some mPop else if m = "clear" then some mClear else none
def bmS (m : Str) : Option MD :=
  if m = "join" then some mJoin else if m = "lower" then some mLower else if m = "find" then some mFind else if m = "split" then some mSplit else none
theorem bmL_ok {X : Cx} (hc : X.calm = true) {m : Str} {q : MD} (h : bmL m = some q) : ∃ id r, Slot "list" m id ∧ typeOf (.builtin id) = pure (.type "method_descriptor") ∧ MtR X id r ∧ MtD X.K r q := by
  unfold bmL at h
  split at h
  · subst_vars; cases h; exact ⟨_, _, PySem.F.slot_list_append, PySem.F.type_list_append, mt_append, mAppend_ok⟩
  split at h
  · subst_vars; cases h; exact ⟨_, _, PySem.F.slot_list_extend, PySem.F.type_list_extend, mt_extend, mExtend_ok⟩
  split at h
  · subst_vars; cases h; exact ⟨_, _, PySem.F.slot_list_pop, PySem.F.type_list_pop, mt_vPop, mPop_ok⟩
  split at h
  · subst_vars; cases h; exact ⟨_, _, PySem.F.slot_list_clear, PySem.F.type_list_clear, mt_clear, mClear_ok⟩
  cases h
theorem bmS_ok {X : Cx} (hc : X.calm = true) {m : Str} {q : MD} (h : bmS m = some q) : ∃ id r, Slot "str" m id ∧ typeOf (.builtin id) = pure (.type "method_descriptor") ∧ MtR X id r ∧ MtD X.K r q := by
  unfold bmS at h
  split at h
  · subst_vars; cases h; exact ⟨_, _, PySem.F.slot_str_join, PySem.F.type_str_join, mt_join, mJoin_ok⟩
  split at h
  · subst_vars; cases h; exact ⟨_, _, PySem.F.slot_str_lower, PySem.F.type_str_lower, mt_lower, mLower_ok⟩
  split at h
  · subst_vars; cases h; exact ⟨_, _, PySem.F.slot_str_find, PySem.F.type_str_find, mt_find, mFind_ok⟩
  split at h
  · subst_vars; cases h; exact ⟨_, _, PySem.F.slot_str_split, PySem.F.type_str_split, mt_split, mSplit_ok⟩
  cases h

/-! ### the compiler, one level: r compiles what stands below -/
structure Rc where
  E : Cc → Expr → Option TED
  T : Cc → Expr → Option TTD
structure RcOk (n : Nat) (Γ : Nat → SpD) (r : Rc) : Prop where
  E : ∀ c e t, r.E c e = some t → ∀ X W, Fits n Γ c X W → PE X e (LE X.K t W)
  T : ∀ c e t, r.T c e = some t → ∀ X W, Fits n Γ c X W → PT X e (LT X.K t W)
def cA (f : Expr → Option TED) : List Expr → Option TAD
  | [] => some tNilD
  | e :: es => if (!isStar e) = true then (f e).bind fun t => (cA f es).bind fun u => some (tConsD t u) else none
theorem cA_ok {X : Cx} {W : WX} {f : Expr → Option TED} (hf : ∀ e t, f e = some t → PE X e (LE X.K t W)) : ∀ {es : List Expr} {t : TAD}, cA f es = some t → PA X es (LA X.K t W) ∧ es.all (fun e => !isStar e) = true
  | [], _, h => by cases h; exact ⟨ja_nil, rfl⟩
  | e :: es, t, h => by
    obtain ⟨h1, h2⟩ := iS h
    obtain ⟨te, h3, h4⟩ := bS h2
    obtain ⟨tr, h5, h6⟩ := bS h4
    cases h6
    obtain ⟨k1, k2⟩ := cA_ok hf h5
    exact ⟨ja_cons (hf e te h3) k1 (star_ok (by simpa using h1)), by rw [List.all_cons, h1, k2]; rfl⟩
def kwNames : List Keyword → Option (List Str)
  | [] => some []
  | ⟨some x, _, _⟩ :: r => (kwNames r).map (x :: ·)
  | ⟨none, _, _⟩ :: _ => none
theorem kwNames_ok {env : Env} {pos : Pos} : ∀ {kws : List Keyword} {ks : List Str}, kwNames kws = some ks → (backToKw pos (keywordEach kws env)).all (·.1.isSome) = true ∧ (backToKw pos (keywordEach kws env)).filterMap (·.1) = ks ∧ (backToKw pos (keywordEach kws env)).any (·.1.isNone) = false ∧ (keywordEach kws env).all (·.1.isSome) = true
  | [], _, h => by cases h; exact ⟨rfl, rfl, rfl, rfl⟩
  | ⟨some x, e, p⟩ :: r, ks, h => by
    obtain ⟨ks', h1, h2⟩ := mS h
    subst h2
    obtain ⟨k1, k2, k3, k4⟩ := kwNames_ok (env := env) (pos := pos) h1
    refine ⟨?_, ?_, ?_, ?_⟩
    · show (_ && (backToKw pos (keywordEach r env)).all _) = true; rw [k1]; rfl
    · show List.filterMap _ ((some x, _) :: backToKw pos (keywordEach r env)) = _; rw [List.filterMap_cons]; show x :: _ = _; rw [k2]
    · show (_ || (backToKw pos (keywordEach r env)).any _) = false; rw [k3]; rfl
    · show (_ && (keywordEach r env).all _) = true; rw [k4]; rfl
  | ⟨none, _, _⟩ :: _, _, h => by cases h
def cKw (f : Expr → Option TED) : List Keyword → Option TAD
  | [] => some tNilD
  | ⟨_, e, _⟩ :: r => (f e).bind fun t => (cKw f r).bind fun u => some (tConsD t u)
theorem cKw_ok {X : Cx} {W : WX} {f : Expr → Option TED} (hf : ∀ e t, f e = some t → PE X e (LE X.K t W)) : ∀ {kws : List Keyword} {t : TAD}, cKw f kws = some t → PK X kws (LA X.K t W)
  | [], _, h => by cases h; exact jk_nil
  | ⟨_, e, _⟩ :: r, t, h => by
    obtain ⟨te, h3, h4⟩ := bS h
    obtain ⟨tr, h5, h6⟩ := bS h4
    cases h6
    exact jk_cons (hf e te h3) (cKw_ok hf h5)
def cNm (c : Cc) (x : Str) : Option TED :=
  if isVis c x = true then (if nodbg x = true then (ixL c.N x).map tVarD else none) else if isG c x = true then (if nodbg x = true then (T.glob x).map tConD else none) else none
def cKon : Const → Option TED
  | .none => some (tConD .non)
  | .bool b => some (tConD (.bl b))
  | .int i => some (tConD (.int i))
  | .str s => some (tConD (.str s))
  | _ => none
def cCmp (f : Expr → Option TED) (a : Expr) : List CmpOp → List Expr → Option TED
  | [op], [b] => if (!behindInMarks op b) = true then (copD op).bind fun q => (f a).bind fun ta => (f b).bind fun tb => some (tBin q ta tb) else none
  | [op, op'], [b, d] => if (!lastMarks [op, op'] [b, d]) = true then (copD op).bind fun q => (copD op').bind fun q' => (f a).bind fun ta => (f b).bind fun tb => (f d).bind fun td => some (tChD q q' ta tb td) else none
  | _, _ => none
def cBV (f : Expr → Option TED) : BoolOp → List Expr → Option TED
  | _, [] => none
  | _, [e] => f e
  | .And, e :: e' :: es => (f e).bind fun t => (cBV f .And (e' :: es)).bind fun u => some (tAndV t u)
  | .Or, e :: e' :: es => (f e).bind fun t => (cBV f .Or (e' :: es)).bind fun u => some (tOrV t u)
def cBT (f : Expr → Option TTD) : BoolOp → List Expr → Option TTD
  | _, [] => none
  | _, [e] => f e
  | .And, e :: e' :: es => (f e).bind fun t => (cBT f .And (e' :: es)).bind fun u => some (tAndD t u)
  | .Or, e :: e' :: es => (f e).bind fun t => (cBT f .Or (e' :: es)).bind fun u => some (tOrD t u)
def cOpt (f : Expr → Option TED) : Option Expr → Option TOD
  | none => some tNoD
  | some e => (f e).map tPartD
def isSl : Expr → Bool
  | .Slice .. => true
  | _ => false
def cSub (f : Expr → Option TED) (o : Expr) : Expr → Option TED
  | .Slice lo hi none _ => (f o).bind fun te => (cOpt f lo).bind fun tl => (cOpt f hi).bind fun th => some (tSlD te tl th)
  | i => if (!isSl i) = true then (f o).bind fun ta => (f i).bind fun tb => some (tBin oIx ta tb) else none
def cCall (f : Expr → Option TED) (Γ : Nat → SpD) (c : Cc) (x : Str) (args : List Expr) : List Keyword → Option TED
  | [] => if (isG c x && nodbg x) = true then (match T.call x args.length [] with
    | some (i, dv) => (cA f args).bind fun ta => some (tCallD (Γ i) dv args.length 0 ta tNilD)
    | none => match T.make x args.length [] with
      | some (k, i, dv) => (cA f args).bind fun ta => some (tCallD (spMake (Γ i) k) dv args.length 0 ta tNilD)
      | none => match args with
        | [] => none
        | e :: es => match bltF x with
          | some (_, q) => (cA f (e :: es)).bind fun ta => some (tBltD q ta)
          | none => match bltT x with
            | some (_, q) => (cA f (e :: es)).bind fun ta => some (tBltD q ta)
            | none => if decide (x = "isinstance") = true then (match e, es with
              | a, [.Name y _] => if (!isStar a && (isG c y && nodbg y)) = true then (isiT y).bind fun m => (f a).bind fun ta => some (tIsiD m ta) else none
              | _, _ => none) else none) else none
  | kw :: kws => if (isG c x && nodbg x) = true then (kwNames (kw :: kws)).bind fun ks => (cKw f (kw :: kws)).bind fun tk => (match args with
    | [] => none
    | e :: es => match T.call x (es.length + 1) ks with
      | some (i, dv) => (cA f (e :: es)).bind fun ta => some (tCallD (Γ i) dv (es.length + 1) ks.length ta tk)
      | none => match T.make x (es.length + 1) ks with
        | some (k, i, dv) => (cA f (e :: es)).bind fun ta => some (tCallD (spMake (Γ i) k) dv (es.length + 1) ks.length ta tk)
        | none => none) else none
def cMth (f : Expr → Option TED) (Γ : Nat → SpD) (o : Expr) (m : Str) (args : List Expr) (kws : List Keyword) (l : Bool) : Option TED :=
  if (!isCallSuper o && (l && decide (args.length + kws.length < 20))) = true then (f o).bind fun te => (match kws with
    | [] => (match bmL m with
      | some q => (cA f args).bind fun ta => some (tBmL q te ta)
      | none => match bmS m with
        | some q => (match args with
          | [] => some (tBmS q te tNilD)
          | [e] => if (!isStar e) = true then (f e).bind fun ta => some (tBmS q te (tConsD ta tNilD)) else none
          | _ => none)
        | none => (cA f args).bind fun ta => some (tMethD Γ m args.length [] te ta tNilD))
    | kw :: kws => (kwNames (kw :: kws)).bind fun ks => (cKw f (kw :: kws)).bind fun tk => (match args with
      | [] => none
      | e :: es => (cA f (e :: es)).bind fun ta => some (tMethD Γ m (es.length + 1) ks te ta tk))) else none
/-- a comprehension's target -/
def cIs (N : List Str) : List Expr → Option (List Nat)
  | [] => some []
  | .Name x _ :: es => (ixL N x).bind fun i => (cIs N es).bind fun is => some (i :: is)
  | _ => none
def cCt (N : List Str) : Expr → Option Ct
  | .Name x _ => (ixL N x).map .nm
  | .Tuple es _ _ => (cIs N es).map .tp
  | _ => none
def isOwn (sc : Scope) (x : Str) : Bool := match sc.names.lookup x with
  | some .local => true
  | some .cell => true
  | _ => false
def ownOf (sc : Scope) : List Str → Nat → List (Str × Nat)
  | [], _ => []
  | x :: r, i => if isOwn sc x = true then (x, i) :: ownOf sc r (i + 1) else ownOf sc r (i + 1)
def stoB (c : Cc) (x : Str) : Bool := match c.sc.names.lookup x with
  | some .local => true
  | some .cell => c.fn x
  | _ => false
def stoE (c : Cc) : Expr → Bool
  | .Name x _ => stoB c x
  | .Tuple es _ _ => es.all fun e => match e with
    | .Name x _ => stoB c x
    | _ => false
  | _ => false
def rngArgs (c : Cc) : Expr → Option (List Expr)
  | .Call (.Name x _) args [] _ => if (decide (x = "range") && (isG c x && args.all fun e => !isStar e)) = true then some args else none
  | _ => none
def isSetE : Expr → Bool
  | .Set .. => true
  | _ => false
def cIt (f : Expr → Option TED) (c : Cc) (e : Expr) : Option TID := match rngArgs c e with
  | some [a] => (f a).map tRng1D
  | some [a, b] => (f a).bind fun ta => (f b).bind fun tb => some (tRng2D ta tb)
  | _ => (f e).map tWalkD
def cIfs (f : Expr → Option TTD) : List Expr → Option TTD
  | [] => some tYesD
  | [e] => f e
  | _ => none
def inC (c : Cc) (scope : Scope) : Cc := { N := c.N, sc := relS scope c.sc, fn := fun x => scope.names.lookup x == some .cell }
def cLc (r : Rc) (c : Cc) (elt tg iter : Expr) (ifs : List Expr) (scope : Scope) : Option (TID × Ct × TTD × TED × List Nat) :=
  if (blkC c.N c.sc scope (ownOf scope c.N 0) && (stoE (inC c scope) tg && !isSetE iter)) = true then
    (cCt c.N tg).bind fun ct => if (ct.ix.all fun i => decide (i ∈ (ownOf scope c.N 0).map (·.2))) = true then
      (cIt (r.E c) c iter).bind fun it => (cIfs (r.T (inC c scope)) ifs).bind fun tt => (r.E (inC c scope) elt).bind fun te => some (it, ct, tt, te, (ownOf scope c.N 0).map (·.2)) else none else none
def cE (Γ : Nat → SpD) (r : Rc) (c : Cc) : Expr → Option TED
  | .Constant k _ _ => cKon k
  | .Name x _ => cNm c x
  | .BinOp a op b _ => (bopD op).bind fun q => (r.E c a).bind fun ta => (r.E c b).bind fun tb => some (tBin q ta tb)
  | .Compare a ops bs _ => cCmp (r.E c) a ops bs
  | .BoolOp op es _ => cBV (r.E c) op es
  | .UnaryOp .Not a _ => (r.E c a).map tNotVD
  | .UnaryOp .USub a _ => (r.E c a).map tNegD
  | .IfExp t a b _ => (r.T c t).bind fun tt => (r.E c a).bind fun ta => (r.E c b).bind fun tb => some (tIfD tt ta tb)
  | .Subscript o i _ => cSub (r.E c) o i
  | .Tuple es _ _ => (cA (r.E c) es).map tTupD
  | .List es _ => (cA (r.E c) es).map tLstD
  | .Attribute o f _ => if (!isCallSuper o) = true then (r.E c o).map fun te => tFldD te f else none
  | .Call (.Name x _) args kws _ => cCall (r.E c) Γ c x args kws
  | .Call (.Attribute o m apos) args kws pos => cMth (r.E c) Γ o m args kws (apos.endLine == pos.line)
  | .ListComp elt [⟨tg, iter, ifs, 0⟩] scope _ => (cLc r c elt tg iter ifs scope).map fun p => tLcD p.1 p.2.1 p.2.2.1 p.2.2.2.1 p.2.2.2.2
  | _ => none
def plainT : Expr → Bool
  | .UnaryOp .Not _ _ => false
  | .BoolOp .. => false
  | .IfExp .. => false
  | .Compare .. => false
  | _ => true
def cT (Γ : Nat → SpD) (r : Rc) (c : Cc) : Expr → Option TTD
  | .UnaryOp .Not a _ => (r.T c a).map tNotD
  | .BoolOp op es _ => cBT (r.T c) op es
  | .Compare a ops bs _ => (cCmp (r.E c) a ops bs).map tBoolD
  | e => if plainT e = true then (r.E c e).map tTruD else none
def rc0 : Rc := ⟨fun _ _ => none, fun _ _ => none⟩
def rcS (Γ : Nat → SpD) (r : Rc) : Rc := ⟨cE Γ r, cT Γ r⟩
def rcN (Γ : Nat → SpD) : Nat → Rc
  | 0 => rc0
  | n + 1 => rcS Γ (rcN Γ n)
end Y

/-! Y11: the compiler of expressions is right. -/
namespace Y
open PySem PySem.Spec PyProof.Rows L2
variable [T : Tab]
section
variable {n : Nat} {Γ : Nat → SpD} {c : Cc} {X : Cx} {W : WX} {f : Expr → Option TED} {ft : Expr → Option TTD} {pos : Pos}
theorem Fits.ix (F : Fits n Γ c X W) {x : Str} {i : Nat} (h : ixL c.N x = some i) : X.N[i]? = some x := by rw [F.N]; exact ixL_ok h
theorem cNm_ok (F : Fits n Γ c X W) {x : Str} {t : TED} (h : cNm c x = some t) : PE X (.Name x pos) (LE X.K t W) := by
  unfold cNm at h
  split at h
  · rename_i hv
    obtain ⟨h1, h2⟩ := iS h
    obtain ⟨i, h3, h4⟩ := mS h2
    subst h4
    obtain ⟨d1, d2, d3⟩ := nodbg_ok h1
    exact je_var (F.ix h3) (isVis_ok F hv) d1 d2
  · obtain ⟨h0, h⟩ := iS h
    obtain ⟨h1, h2⟩ := iS h
    obtain ⟨d, h3, h4⟩ := mS h2
    subst h4
    obtain ⟨d1, d2, d3⟩ := nodbg_ok h1
    obtain ⟨v, u, e1, e2, e3⟩ := F.toFx.gl x d h3
    exact je_con (pe_glob (isG_ok F h0) e1 e2 d1) e3
theorem cKon_ok {k : Const} {j : Nat} {t : TED} (h : cKon k = some t) : PE X (.Constant k j pos) (LE X.K t W) := by
  cases k <;> cases h
  · exact je_con pe_non fun _ => .non
  · exact je_con pe_bl fun _ => .bl _
  · exact je_con pe_int fun _ => .int _
  · exact je_con pe_str fun _ => .str _
theorem cCmp_ok (F : Fits n Γ c X W) (hf : ∀ e t, f e = some t → PE X e (LE X.K t W)) {a : Expr} {ops : List CmpOp} {bs : List Expr} {t : TED} (h : cCmp f a ops bs = some t) : PE X (.Compare a ops bs pos) (LE X.K t W) ∧ PT X (.Compare a ops bs pos) (LT X.K (tBoolD t) W) := by
  unfold cCmp at h
  split at h
  · obtain ⟨h1, h⟩ := iS h
    obtain ⟨q, h2, h⟩ := bS h
    obtain ⟨ta, h3, h⟩ := bS h
    obtain ⟨tb, h4, h⟩ := bS h
    cases h
    obtain ⟨r, o1, o2⟩ := cop_ok F.toFx.rb.u h2
    exact ⟨je_cmp o1 o2 (hf _ _ h3) (hf _ _ h4) (by simpa using h1), jt_cmp o1 o2 (hf _ _ h3) (hf _ _ h4) (by simpa using h1)⟩
  · obtain ⟨h1, h⟩ := iS h
    obtain ⟨q, h2, h⟩ := bS h
    obtain ⟨q', h2', h⟩ := bS h
    obtain ⟨ta, h3, h⟩ := bS h
    obtain ⟨tb, h4, h⟩ := bS h
    obtain ⟨td, h5, h⟩ := bS h
    cases h
    obtain ⟨r, o1, o2⟩ := cop_ok F.toFx.rb.u h2
    obtain ⟨r', o1', o2'⟩ := cop_ok F.toFx.rb.u h2'
    exact ⟨je_ch o1 o1' o2 o2' (hf _ _ h3) (hf _ _ h4) (hf _ _ h5) (by simpa using h1), jt_ch o1 o1' o2 o2' (hf _ _ h3) (hf _ _ h4) (hf _ _ h5) (by simpa using h1)⟩
  · cases h
theorem cBV_ok (hf : ∀ e t, f e = some t → PE X e (LE X.K t W)) {op : BoolOp} : ∀ {es : List Expr} {t : TED}, cBV f op es = some t → PE X (.BoolOp op es pos) (LE X.K t W)
  | [], t, h => by cases op <;> cases h
  | [e], t, h => by
    cases op <;> exact je_one (hf _ _ h)
  | e :: e' :: es, t, h => by
    cases op
    · obtain ⟨te, h1, h⟩ := bS h
      obtain ⟨tu, h2, h⟩ := bS h
      cases h
      exact je_and (hf _ _ h1) (cBV_ok hf h2)
    · obtain ⟨te, h1, h⟩ := bS h
      obtain ⟨tu, h2, h⟩ := bS h
      cases h
      exact je_or (hf _ _ h1) (cBV_ok hf h2)
theorem cBT_ok (hf : ∀ e t, ft e = some t → PT X e (LT X.K t W)) {op : BoolOp} : ∀ {es : List Expr} {t : TTD}, cBT ft op es = some t → PW X (.BoolOp op es pos) (LT X.K t W)
  | [], t, h => by cases op <;> cases h
  | [e], t, h => by
    cases op
    · exact jw_and1 (hf _ _ h)
    · exact jw_or1 (hf _ _ h)
  | e :: e' :: es, t, h => by
    cases op
    · obtain ⟨te, h1, h⟩ := bS h
      obtain ⟨tu, h2, h⟩ := bS h
      cases h
      exact jw_and (hf _ _ h1) (cBT_ok hf h2)
    · obtain ⟨te, h1, h⟩ := bS h
      obtain ⟨tu, h2, h⟩ := bS h
      cases h
      exact jw_or (hf _ _ h1) (cBT_ok hf h2)
theorem cOpt_ok (hf : ∀ e t, f e = some t → PE X e (LE X.K t W)) {e : Option Expr} {t : TOD} (h : cOpt f e = some t) : PO X e (LO X.K t W) := by
  cases e with
  | none => cases h; exact jo_none
  | some e =>
    obtain ⟨te, h1, h2⟩ := mS h
    subst h2
    exact jo_some (hf _ _ h1)
theorem plainIx {b : Expr} (h : isSl b = false) : PlainIx b := by
  intro o i
  cases b <;> first | rfl | cases h
theorem cSub_ok (hf : ∀ e t, f e = some t → PE X e (LE X.K t W)) {o i : Expr} {t : TED} (h : cSub f o i = some t) : PE X (.Subscript o i pos) (LE X.K t W) := by
  unfold cSub at h
  split at h
  · obtain ⟨te, h1, h⟩ := bS h
    obtain ⟨tl, h2, h⟩ := bS h
    obtain ⟨th, h3, h⟩ := bS h
    cases h
    exact je_sl (hf _ _ h1) (cOpt_ok hf h2) (cOpt_ok hf h3)
  · obtain ⟨h0, h⟩ := iS h
    obtain ⟨ta, h1, h⟩ := bS h
    obtain ⟨tb, h2, h⟩ := bS h
    cases h
    exact je_ix (hf _ _ h1) (hf _ _ h2) (plainIx (by simpa using h0))
theorem andB {a b : Bool} (h : (a && b) = true) : a = true ∧ b = true := Bool.and_eq_true_iff.mp h
theorem cCall_ok (F : Fits n Γ c X W) (hf : ∀ e t, f e = some t → PE X e (LE X.K t W)) {x : Str} {args : List Expr} {kws : List Keyword} {t : TED} {p : Pos} (h : cCall f Γ c x args kws = some t) : PE X (.Call (.Name x p) args kws pos) (LE X.K t W) := by
  have G := F.toFx
  cases kws with
  | nil =>
    obtain ⟨h0, h⟩ := iS h
    obtain ⟨h1, h2⟩ := andB h0
    have hg := isG_ok F h1
    obtain ⟨d1, d2, d3⟩ := nodbg_ok h2
    split at h
    · rename_i i dv e
      obtain ⟨ta, h3, h⟩ := bS h
      cases h
      obtain ⟨fa, fd, ps, m1, kp, FG, hb⟩ := G.cl x _ _ i dv e
      cases args with
      | nil => cases h3; exact je_call0 FG G.rb hb F.tk hg m1 kp d1
      | cons a as =>
        obtain ⟨k1, k2⟩ := cA_ok hf h3
        obtain ⟨k3, k4⟩ := andB (show (!isStar a && as.all _) = true from k2)
        exact je_call FG G.rb hb F.tk hg m1 kp k1 d1 (star_ok (by simpa using k3)) (noback k4)
    · split at h
      · rename_i k i dv e
        obtain ⟨ta, h3, h⟩ := bS h
        cases h
        obtain ⟨m1, fa, fd, ps, M, FG, hb⟩ := G.mkO x _ _ k i dv e
        cases args with
        | nil => cases h3; exact je_make0 M FG G.rb hb F.tk hg m1 d1
        | cons a as =>
          obtain ⟨k1, k2⟩ := cA_ok hf h3
          obtain ⟨k3, k4⟩ := andB (show (!isStar a && as.all _) = true from k2)
          exact je_make M FG G.rb hb F.tk hg m1 k1 d1 (star_ok (by simpa using k3)) (noback k4)
      · cases args with
        | nil => cases h
        | cons a as =>
          dsimp only at h
          split at h
          · rename_i id q e
            obtain ⟨ta, h3, h⟩ := bS h
            cases h
            obtain ⟨⟨r, b1, b2⟩, b3, b4⟩ := bltF_ok G e
            obtain ⟨k1, k2⟩ := cA_ok hf h3
            obtain ⟨k3, k4⟩ := andB (show (!isStar a && as.all _) = true from k2)
            exact je_bltB b1 b2 hg b3 b4 k1 d3 d1 (star_ok (by simpa using k3)) (noback k4)
          · split at h
            · rename_i id q e
              obtain ⟨ta, h3, h⟩ := bS h
              cases h
              obtain ⟨⟨r, b1, b2⟩, b3, b4⟩ := bltT_ok G e
              obtain ⟨k1, k2⟩ := cA_ok hf h3
              obtain ⟨k3, k4⟩ := andB (show (!isStar a && as.all _) = true from k2)
              exact je_bltT b1 b2 hg b3 b4 k1 d3 d1 (star_ok (by simpa using k3)) (noback k4)
            · obtain ⟨h5, h⟩ := iS h
              have ex := of_decide_eq_true h5
              split at h
              · obtain ⟨h6, h⟩ := iS h
                obtain ⟨h7, h8⟩ := andB h6
                obtain ⟨h9, h10⟩ := andB h8
                obtain ⟨m, i1, h⟩ := bS h
                obtain ⟨ta, h3, h⟩ := bS h
                cases h
                obtain ⟨j1, j2, j3⟩ := isiT_ok G i1
                obtain ⟨c1, c2, c3⟩ := nodbg_ok h10
                subst ex
                exact je_isi j1 hg (G.fr _ (by decide)) (isG_ok F h9) j2 j3 c3 c1 (hf _ _ h3) (star_ok (by simpa using h7))
              · cases h
  | cons kw kws =>
    obtain ⟨h0, h⟩ := iS h
    obtain ⟨h1, h2⟩ := andB h0
    have hg := isG_ok F h1
    obtain ⟨d1, d2, d3⟩ := nodbg_ok h2
    obtain ⟨ks, q1, h⟩ := bS h
    obtain ⟨tk, q2, h⟩ := bS h
    obtain ⟨w1, w2, w3, w4⟩ := kwNames_ok (env := X.env) (pos := pos) q1
    cases args with
    | nil => cases h
    | cons a as =>
      dsimp only at h
      split at h
      · rename_i i dv e
        obtain ⟨ta, h3, h⟩ := bS h
        cases h
        obtain ⟨fa, fd, ps, m1, kp, FG, hb⟩ := G.cl x _ _ i dv e
        obtain ⟨k1, k2⟩ := cA_ok hf h3
        obtain ⟨k3, k4⟩ := andB (show (!isStar a && as.all _) = true from k2)
        exact je_callK FG G.rb hb F.tk hg m1 kp k1 (cKw_ok hf q2) w1 w2 d1 (star_ok (by simpa using k3)) (by rw [noback k2, w3]; rfl)
      · split at h
        · rename_i k i dv e
          obtain ⟨ta, h3, h⟩ := bS h
          cases h
          obtain ⟨m1, fa, fd, ps, M, FG, hb⟩ := G.mkO x _ _ k i dv e
          obtain ⟨k1, k2⟩ := cA_ok hf h3
          obtain ⟨k3, k4⟩ := andB (show (!isStar a && as.all _) = true from k2)
          exact je_makeK M FG G.rb hb F.tk hg m1 k1 (cKw_ok hf q2) w1 w2 d1 (star_ok (by simpa using k3)) (by rw [noback k2, w3]; rfl)
        · cases h

theorem form_ok {args : List Expr} {kws : List Keyword} {env : Env} {p1 p2 : Pos} (h1 : args.all (fun e => !isStar e) = true) (h2 : (keywordEach kws env).all (·.1.isSome) = true) (h : args.length + kws.length < 20) :
    methodCallForm (args.length + kws.length) (backTo p1 (starEach args env)) (backToKw p2 (keywordEach kws env)) = true ∧
    ((backTo p1 (starEach args env)).all (fun x => !x.1) && (backToKw p2 (keywordEach kws env)).all (fun x => x.1.isSome) && decide (args.length + kws.length + (if kws.isEmpty then 0 else 1) < 30)) = true := by
  have e1 : (backTo p1 (starEach args env)).all (fun x => !x.1) = true := by
    have := nostar (env := env) h1
    unfold backTo
    rw [List.all_map]
    exact this
  have e2 : (backToKw p2 (keywordEach kws env)).all (fun x => x.1.isSome) = true := by
    unfold backToKw
    rw [List.all_map]
    exact h2
  refine ⟨?_, ?_⟩
  · unfold methodCallForm
    rw [e1, e2]
    have : (backToKw p2 (keywordEach kws env)).isEmpty = true ∨ True := .inr trivial
    simp only [Bool.true_and, decide_eq_true_eq]
    split <;> omega
  · rw [e1, e2]
    simp only [Bool.true_and, decide_eq_true_eq]
    split <;> omega
theorem cMth_ok (F : Fits n Γ c X W) (hf : ∀ e t, f e = some t → PE X e (LE X.K t W)) {o : Expr} {m : Str} {args : List Expr} {kws : List Keyword} {t : TED} {apos : Pos} (h : cMth f Γ o m args kws (apos.endLine == pos.line) = some t) : PE X (.Call (.Attribute o m apos) args kws pos) (LE X.K t W) := by
  have G := F.toFx
  obtain ⟨h0, h⟩ := iS h
  obtain ⟨h1, h0⟩ := andB h0
  obtain ⟨hl, hn⟩ := andB h0
  have hn := of_decide_eq_true hn
  have hb : attributeBase o m X.env (eval o X.env) = eval o X.env := base_ok (by simpa using h1)
  obtain ⟨te, h2, h⟩ := bS h
  have ho := hf _ _ h2
  cases kws with
  | nil =>
    dsimp only at h
    split at h
    · rename_i q e
      obtain ⟨ta, h3, h⟩ := bS h
      cases h
      obtain ⟨id, r, s1, s2, s3, s4⟩ := bmL_ok G.calm e
      cases args with
      | nil => cases h3; exact je_bmL0 s1 s2 s3 s4 ho hb hl
      | cons a as =>
        obtain ⟨k1, k2⟩ := cA_ok hf h3
        obtain ⟨k3, k4⟩ := andB (show (!isStar a && as.all _) = true from k2)
        exact je_bmL s1 s2 s3 s4 ho k1 hb (form_ok k2 rfl hn).2 hl (star_ok (by simpa using k3)) (noback k4)
    · split at h
      · rename_i q e
        obtain ⟨id, r, s1, s2, s3, s4⟩ := bmS_ok G.calm e
        split at h
        · cases h
          exact je_bmS0 s1 s2 s3 s4 ho hb hl
        · obtain ⟨h5, h⟩ := iS h
          obtain ⟨ta, h3, h⟩ := bS h
          cases h
          exact je_bmS s1 s2 s3 s4 ho (hf _ _ h3) (star_ok (by simpa using h5)) hb hl
        · cases h
      · obtain ⟨ta, h3, h⟩ := bS h
        cases h
        cases args with
        | nil => cases h3; exact je_meth0 G.mo G.rb F.tk ho hb hl
        | cons a as =>
          obtain ⟨k1, k2⟩ := cA_ok hf h3
          obtain ⟨k3, k4⟩ := andB (show (!isStar a && as.all _) = true from k2)
          exact je_meth G.mo G.rb F.tk ho k1 hb hl (form_ok k2 rfl hn).1 (star_ok (by simpa using k3)) (noback k4)
  | cons kw kws =>
    obtain ⟨ks, q1, h⟩ := bS h
    obtain ⟨tk, q2, h⟩ := bS h
    obtain ⟨w1, w2, w3, w4⟩ := kwNames_ok (env := X.env) (pos := pos) q1
    cases args with
    | nil => cases h
    | cons a as =>
      obtain ⟨ta, h3, h⟩ := bS h
      cases h
      obtain ⟨k1, k2⟩ := cA_ok hf h3
      obtain ⟨k3, k4⟩ := andB (show (!isStar a && as.all _) = true from k2)
      exact je_methK G.mo G.rb F.tk ho k1 (cKw_ok hf q2) hb hl (form_ok k2 w4 hn).1 w1 w2 (star_ok (by simpa using k3)) (by rw [noback k2, w3]; rfl)
/-! ### what is walked; comprehensions -/
theorem fold_ok {e : Expr} {env : Env} (h : isSetE e = false) (x : Value) : foldedSetIterable e env x = pure x := by
  cases e <;> first | rfl | cases h
theorem cIt_ok (F : Fits n Γ c X W) (hf : ∀ e t, f e = some t → PE X e (LE X.K t W)) {tg e : Expr} {it : TID} (h : cIt f c e = some it) : PI X tg e (LI X.K it W) := by
  have G := F.toFx
  have key : ∀ l, rngArgs c e = some l → ∃ p q, e = .Call (.Name "range" p) l [] q ∧ Gl X "range" ∧ l.all (fun e => !isStar e) = true := fun l hl => by
    unfold rngArgs at hl
    split at hl
    · obtain ⟨h1, h2⟩ := iS hl
      obtain ⟨h3, h4⟩ := andB h1
      obtain ⟨h5, h6⟩ := andB h4
      cases h2
      have ex := of_decide_eq_true h3
      subst ex
      exact ⟨_, _, rfl, isG_ok F h5, h6⟩
    · cases hl
  unfold cIt at h
  split at h
  · rename_i a e1
    obtain ⟨p, q, rfl, hg, hs⟩ := key _ e1
    obtain ⟨ta, h3, h⟩ := mS h
    subst h
    have sa : isStar a = false := by simpa using hs
    exact ji_rng1 hg (G.fr _ (by decide)) (hf _ _ h3) (star_ok sa) (star_ok sa)
  · rename_i a b e1
    obtain ⟨p, q, rfl, hg, hs⟩ := key _ e1
    obtain ⟨ta, h3, h⟩ := bS h
    obtain ⟨tb, h4, h⟩ := bS h
    cases h
    have sa : isStar a = false ∧ isStar b = false := by simpa using hs
    exact ji_rng2 hg (G.fr _ (by decide)) (hf _ _ h3) (hf _ _ h4) ((star_ok sa.1).trans (congrArg _ (star_ok sa.2))) (star_ok sa.2) (star_ok sa.1) (star_ok sa.2)
  · obtain ⟨ta, h3, h⟩ := mS h
    subst h
    exact ji_walk (hf _ _ h3)
theorem stoB_ok (F : Fits n Γ c X W) {x : Str} (h : stoB c x = true) : Loc X.env.scope x ∧ (X.fn x = true ∨ X.env.scope.names.lookup x = some .local) := by
  unfold stoB at h
  unfold L2.Loc
  rw [F.sc]
  split at h
  · rename_i e; exact ⟨.inl e, .inr e⟩
  · rename_i e; exact ⟨.inr e, .inl (F.fn x h)⟩
  · cases h
theorem cIs_ok (F : Fits n Γ c X W) : ∀ {es : List Expr} {is : List Nat}, cIs c.N es = some is → (es.all fun e => match e with
    | .Name x _ => stoB c x
    | _ => false) = true → PGs X es (gIs is) ∧ es.length = is.length ∧ (es.all fun e => !isStar e) = true
  | [], is, h, _ => by cases h; exact ⟨pgs_nil, rfl, rfl⟩
  | e :: es, is, h, h2 => by
    obtain ⟨s1, s2⟩ := andB (show (_ && es.all _) = true from h2)
    cases e <;> try cases h
    rename_i x p
    obtain ⟨i, h3, h⟩ := bS h
    obtain ⟨is', h4, h⟩ := bS h
    cases h
    obtain ⟨k1, k2, k3⟩ := cIs_ok F h4 s2
    obtain ⟨l1, l2⟩ := stoB_ok F s1
    exact ⟨pgs_cons (pg_name F.toFx.nd (F.ix h3) l1 l2) k1 rfl, by simp [k2], by rw [List.all_cons, k3]; rfl⟩
theorem aeach_len : ∀ {es : List Expr} {env : Env}, (es.all fun e => !isStar e) = true → (assignEach es env).length = es.length ∧ (assignEach es env).findIdx? (·.1) = none
  | [], _, _ => ⟨rfl, rfl⟩
  | e :: es, env, h => by
    obtain ⟨s1, s2⟩ := andB (show (_ && es.all _) = true from h)
    obtain ⟨k1, k2⟩ := aeach_len (env := env) s2
    rw [aeach_ok (by simpa using s1)]
    refine ⟨by simp [k1], ?_⟩
    rw [List.findIdx?_cons, k2]
    rfl
theorem cCt_ok (F : Fits n Γ c X W) {tg : Expr} {ct : Ct} (h : cCt c.N tg = some ct) (h2 : stoE c tg = true) : PG X tg (vCt X.K ct) := by
  cases tg <;> try cases h
  · obtain ⟨i, h3, h⟩ := mS h
    subst h
    obtain ⟨l1, l2⟩ := stoB_ok F h2
    exact pg_name F.toFx.nd (F.ix h3) l1 l2
  · obtain ⟨is, h3, h⟩ := mS h
    subst h
    obtain ⟨k1, k2, k3⟩ := cIs_ok F h3 h2
    obtain ⟨a1, a2⟩ := aeach_len (env := X.env) k3
    exact pg_tup F.toFx.calm k1 (by rw [a1, k2]) a2
end
end Y

/-! Y12: the whole of expressions. -/
namespace Y
open PySem PySem.Spec PyProof.Rows L2
variable [T : Tab]
section
variable {n : Nat} {Γ : Nat → SpD} {c : Cc} {X : Cx} {W : WX} {r : Rc} {pos : Pos}
theorem Fits.blk (F : Fits n Γ c X W) {s : Shared} {H : Hp} {scope : Scope} {cl : List (Str × Addr)} {C : Addr} {fp : List Addr} : Fits n Γ (inC c scope) (X.blk s H scope (compEnvC scope cl C X.env) fp) noW := by
  obtain ⟨⟨rb, calm, nd, att, mo, mkO, cl, gl, fr, eo⟩, eN, sc, hf, tk⟩ := F
  refine ⟨⟨rb, calm, nd, att, mo, mkO, cl, gl, fr, eo⟩, eN, ?_, fun x h => h, takes_no⟩
  show relS scope X.env.scope = relS scope c.sc
  rw [sc]
theorem ownOf_ix {sc : Scope} {M : List Str} : ∀ {N : List Str} {k : Nat}, (∀ (i : Nat) (x : Str), N[i]? = some x → M[k + i]? = some x) → ∀ p ∈ ownOf sc N k, M[p.2]? = some p.1
  | [], _, _, p, hp => by cases hp
  | x :: r, k, h, p, hp => by
    have h' : ∀ (i : Nat) (y : Str), r[i]? = some y → M[k + 1 + i]? = some y := fun i y e => by
      have := h (i + 1) y (by simpa using e)
      rw [show k + 1 + i = k + (i + 1) by omega]; exact this
    unfold ownOf at hp
    split at hp
    · rcases List.mem_cons.mp hp with e | hp
      · subst e
        have := h 0 x rfl
        simpa using this
      · exact ownOf_ix h' p hp
    · exact ownOf_ix h' p hp
theorem cLc_ok (R : RcOk n Γ r) (F : Fits n Γ c X W) {elt tg iter : Expr} {ifs : List Expr} {scope : Scope} {p : TID × Ct × TTD × TED × List Nat} (h : cLc r c elt tg iter ifs scope = some p) :
    PE X (.ListComp elt [⟨tg, iter, ifs, 0⟩] scope pos) (LE X.K (tLcD p.1 p.2.1 p.2.2.1 p.2.2.2.1 p.2.2.2.2) W) ∧
    (∀ (i : Nat) (y : Str) (py spos : Pos), X.N[i]? = some y → X.env.scope.names.lookup y = some .local → swapsWith (.ListComp elt [⟨tg, iter, ifs, 0⟩] scope pos) (some (.Name y py)) spos.line X.env = pure true →
      PS X (.Assign [.Name y py] (.ListComp elt [⟨tg, iter, ifs, 0⟩] scope pos) spos) (LSt X.K (sAsg (tLcD p.1 p.2.1 p.2.2.1 p.2.2.2.1 p.2.2.2.2) (gNm i)) W)) := by
  obtain ⟨h0, h⟩ := iS h
  obtain ⟨hk, h0⟩ := andB h0
  obtain ⟨ht, hset⟩ := andB h0
  obtain ⟨ct, h1, h⟩ := bS h
  obtain ⟨hsub, h⟩ := iS h
  obtain ⟨it, h2, h⟩ := bS h
  obtain ⟨tt, h3, h⟩ := bS h
  obtain ⟨te, h4, h⟩ := bS h
  cases h
  have hit := cIt_ok (tg := tg) F (fun e t q => R.E c e t q X W F) h2
  have ok : BlkOk X.N X.env.scope scope (ownOf scope c.N 0) := by rw [F.N, F.sc]; exact blkOk_by hk
  have hs : ∀ i ∈ ct.ix, i ∈ (ownOf scope c.N 0).map (·.2) := fun i hi => of_decide_eq_true (List.all_eq_true.mp hsub i hi)
  have hg : ∀ (s : Shared) (H : Hp) (C : Addr) (cl : List (Str × Addr)) (fp : List Addr), PG (X.blk s H scope (compEnvC scope cl C X.env) fp) tg (vCt X.K ct) := fun s H C cl fp => cCt_ok (F.blk (s := s) (H := H) (scope := scope) (cl := cl) (C := C) (fp := fp)) h1 ht
  have hte : ∀ (s : Shared) (H : Hp) (C : Addr) (cl : List (Str × Addr)) (fp : List Addr), PTs (X.blk s H scope (compEnvC scope cl C X.env) fp) ifs (LT X.K tt noW) := fun s H C cl fp => by
    unfold cIfs at h3
    split at h3
    · cases h3; exact jts_nil
    · exact pts_one (R.T _ _ _ h3 _ _ (F.blk (s := s) (H := H) (scope := scope) (cl := cl) (C := C) (fp := fp)))
    · cases h3
  have he : ∀ (s : Shared) (H : Hp) (C : Addr) (cl : List (Str × Addr)) (fp : List Addr), PE (X.blk s H scope (compEnvC scope cl C X.env) fp) elt (LE X.K te noW) := fun s H C cl fp => R.E _ _ _ h4 _ _ (F.blk (s := s) (H := H) (scope := scope) (cl := cl) (C := C) (fp := fp))
  have hfold : ∀ x, foldedSetIterable iter X.env x = pure x := fold_ok (by simpa using hset)
  exact ⟨je_lc F.toFx.calm F.toFx.nd hit ok hs hg hte he hfold, fun i y py spos e1 e2 e3 => js_setLc F.toFx.calm F.toFx.nd e1 e2 e3 hit ok hs hg hte he hfold⟩
theorem cE_ok (R : RcOk n Γ r) (F : Fits n Γ c X W) {e : Expr} {t : TED} (h : cE Γ r c e = some t) : PE X e (LE X.K t W) := by
  have hE : ∀ e t, r.E c e = some t → PE X e (LE X.K t W) := fun e t q => R.E c e t q X W F
  have hT : ∀ e t, r.T c e = some t → PT X e (LT X.K t W) := fun e t q => R.T c e t q X W F
  unfold cE at h
  split at h
  · exact cKon_ok h
  · exact cNm_ok F h
  · obtain ⟨q, h1, h⟩ := bS h
    obtain ⟨ta, h2, h⟩ := bS h
    obtain ⟨tb, h3, h⟩ := bS h
    cases h
    obtain ⟨r', o1, o2⟩ := bop_ok (X := X) h1
    exact je_bin o1 o2 (hE _ _ h2) (hE _ _ h3)
  · exact (cCmp_ok F hE h).1
  · exact cBV_ok hE h
  · obtain ⟨ta, h2, h⟩ := mS h
    subst h
    exact je_not (hE _ _ h2)
  · obtain ⟨ta, h2, h⟩ := mS h
    subst h
    exact je_neg (hE _ _ h2)
  · obtain ⟨tt, h1, h⟩ := bS h
    obtain ⟨ta, h2, h⟩ := bS h
    obtain ⟨tb, h3, h⟩ := bS h
    cases h
    exact je_if (hT _ _ h1) (hE _ _ h2) (hE _ _ h3)
  · exact cSub_ok hE h
  · obtain ⟨ta, h2, h⟩ := mS h
    subst h
    exact je_tup (cA_ok hE h2).1
  · obtain ⟨ta, h2, h⟩ := mS h
    subst h
    exact je_lst (cA_ok hE h2).1
  · obtain ⟨h1, h⟩ := iS h
    obtain ⟨ta, h2, h⟩ := mS h
    subst h
    exact je_fld F.toFx.att (hE _ _ h2) (base_ok (by simpa using h1))
  · exact cCall_ok F hE h
  · exact cMth_ok F hE h
  · obtain ⟨p, h2, h⟩ := mS h
    subst h
    exact (cLc_ok R F h2).1
  · cases h
theorem plainT_ok {e : Expr} {env : Env} (h : plainT e = true) (whole : Sem Value) : isTrue e env whole = (do let v ← whole; standAt e.pos; holding [v] (truthy v)) := by
  cases e with
  | UnaryOp op a p => cases op <;> first | rfl | cases h
  | _ => first | rfl | cases h
theorem cT_ok (R : RcOk n Γ r) (F : Fits n Γ c X W) {e : Expr} {t : TTD} (h : cT Γ r c e = some t) : PT X e (LT X.K t W) := by
  have hE : ∀ e t, r.E c e = some t → PE X e (LE X.K t W) := fun e t q => R.E c e t q X W F
  have hT : ∀ e t, r.T c e = some t → PT X e (LT X.K t W) := fun e t q => R.T c e t q X W F
  unfold cT at h
  split at h
  · obtain ⟨ta, h2, h⟩ := mS h
    subst h
    exact jt_not (hT _ _ h2)
  · exact (cBT_ok hT h).pt
  · obtain ⟨ta, h2, h⟩ := mS h
    subst h
    exact (cCmp_ok F hE h2).2
  · obtain ⟨h1, h⟩ := iS h
    obtain ⟨ta, h2, h⟩ := mS h
    subst h
    exact jt_tru (hE _ _ h2) (plainT_ok h1)
end
theorem rcN_ok (n : Nat) (Γ : Nat → SpD) : ∀ m, RcOk n Γ (rcN Γ m)
  | 0 => ⟨fun _ _ _ h => (by cases h), fun _ _ _ h => (by cases h)⟩
  | m + 1 => ⟨fun _ _ _ h _ _ F => cE_ok (rcN_ok n Γ m) F h, fun _ _ _ h _ _ F => cT_ok (rcN_ok n Γ m) F h⟩
end Y

/-! Y13: more statements; the compiler of statements. -/
namespace Y
open PySem PySem.Spec PyProof.Rows L2
variable [T : Tab]
/-! ### a, b = x, y; del xs[i] -/
def sPar (i j : Nat) (ta : TAD) : TSD := fun D σ G => ta σ G (fun xs G1 => match xs with
  | [x, y] => D.nx ((σ.set i (some x)).set j (some y)) G1
  | _ => False) (D.x σ)
def sPar3 (i j l : Nat) (ta : TAD) : TSD := fun D σ G => ta σ G (fun xs G1 => match xs with
  | [x, y, z] => D.nx (((σ.set i (some x)).set j (some y)).set l (some z)) G1
  | _ => False) (D.x σ)
def sDel (to ti : TED) : TSD := fun D σ G => to σ G (fun x G1 => ti σ G1 (fun y G2 => match x, y with
  | .ref a, .int i => ∃ ds k, G2 a = some (.lst ds) ∧ -(2 ^ 63) ≤ i ∧ i < 2 ^ 63 ∧ seqIndex? i ds.length = some k ∧ D.nx σ (up G2 a (.lst (ds.eraseIdx k)))
  | _, _ => False) (D.x σ)) (D.x σ)
def oInAdd : R2D := fun x y G Q => match x, y with
  | .int i, .int j => Q (.int (i + j)) G
  | .str a, .str b => a.length + b.length ≤ sizeLine ∧ Q (.str (a ++ b)) G
  | _, _ => False
theorem RDs.tri {K : PySem.W.Frag} {H : Hp} {d e g : D} {vs : List V} (r : RDs K H [d, e, g] vs) : ∃ v u w, vs = [v, u, w] ∧ RD K H d v ∧ RD K H e u ∧ RD K H g w := by
  cases r with
  | cons r t =>
    obtain ⟨v, u, rfl, h1, h2⟩ := t.duo
    exact ⟨_, _, _, rfl, r, h1, h2⟩
section
variable {X : Cx} {W : WX} {pos : Pos}
theorem js_par {i j : Nat} {x y : Str} {a b : Expr} {ta : TAD} {px py pt : Pos} {kt k2 pt2} (hc : X.calm = true) (hN : X.N.Nodup) (hi : X.N[i]? = some x) (hj : X.N[j]? = some y) (hij : i ≠ j)
    (hx : X.env.scope.names.lookup x = some .local) (hy : X.env.scope.names.lookup y = some .local) (ha : PA X [a, b] (LA X.K ta W))
    (hw : swappedStores [.Tuple [.Name x px, .Name y py] kt pt] (.Tuple [a, b] k2 pt2) X.env = pure (some [x, y])) :
    PS X (.Assign [.Tuple [.Name x px, .Name y py] kt pt] (.Tuple [a, b] k2 pt2) pos) (LSt X.K (sPar i j ta) W) :=
  PS.imp (ps_par hc hN hi hj hij hx hy ha hw) fun Dv σv H ⟨σ, G, D, rs, rh, h, pe⟩ => ⟨σ, G, _, _, rs, rh, h, fun xs vs G1 H1 k1 r rh1 q => by
    match xs, q with
    | [x, y], q =>
      obtain ⟨v, u, rfl, r1, r2⟩ := r.duo
      exact ⟨v, u, rfl, pe.nx _ G1 _ H1 k1 (((rs.keep k1).set i r1).set j r2) rh1 q⟩, pe.px rs⟩
theorem js_par3 {i j l : Nat} {x y z : Str} {a b c : Expr} {ta : TAD} {px py pz pt : Pos} {kt k2 pt2} (hc : X.calm = true) (hN : X.N.Nodup) (hi : X.N[i]? = some x) (hj : X.N[j]? = some y) (hl : X.N[l]? = some z) (hij : i ≠ j) (hil : i ≠ l) (hjl : j ≠ l)
    (hx : X.env.scope.names.lookup x = some .local) (hy : X.env.scope.names.lookup y = some .local) (hz : X.env.scope.names.lookup z = some .local) (ha : PA X [a, b, c] (LA X.K ta W))
    (hw : swappedStores [.Tuple [.Name x px, .Name y py, .Name z pz] kt pt] (.Tuple [a, b, c] k2 pt2) X.env = pure (some [x, y, z])) :
    PS X (.Assign [.Tuple [.Name x px, .Name y py, .Name z pz] kt pt] (.Tuple [a, b, c] k2 pt2) pos) (LSt X.K (sPar3 i j l ta) W) :=
  PS.imp (ps_par3 hc hN hi hj hl hij hil hjl hx hy hz ha hw) fun Dv σv H ⟨σ, G, D, rs, rh, h, pe⟩ => ⟨σ, G, _, _, rs, rh, h, fun xs vs G1 H1 k1 r rh1 q => by
    match xs, q with
    | [x, y, z], q =>
      obtain ⟨v, u, w, rfl, r1, r2, r3⟩ := r.tri
      exact ⟨v, u, w, rfl, pe.nx _ G1 _ H1 k1 ((((rs.keep k1).set i r1).set j r2).set l r3) rh1 q⟩, pe.px rs⟩
theorem js_del {o i : Expr} {to ti : TED} {tpos : Pos} (ho : PE X o (LE X.K to W)) (hi : PE X i (LE X.K ti W)) : PS X (.Delete [.Subscript o i tpos] pos) (LSt X.K (sDel to ti) W) :=
  PS.imp (ps_delL ho hi) fun Dv σv H ⟨σ, G, D, rs, rh, h, pe⟩ => ⟨σ, G, _, _, rs, rh, h, fun x v G1 H1 k1 rx rh1 q1 => ⟨σ, G1, _, _, rs.keep k1, rh1, q1, fun y u G2 H2 k2 ry rh2 q2 => by
    cases x with
    | ref a =>
      cases y with
      | int k =>
        cases rx; cases ry
        obtain ⟨ds, j, e1, b1, b2, e2, q⟩ := q2
        obtain ⟨vs, f, r⟩ := rh2 a _ e1
        exact ⟨a, vs, k, j, rfl, rfl, f, b1, b2, by rw [← r.len]; exact e2, pe.nx σ _ σv _ ((k1.trans k2).trans (Tk.lst f)) (rs.keep ((k1.trans k2).trans (Tk.lst f))) (rh2.set_lst f (r.erase j)) q⟩
      | _ => exact q2.elim
    | _ => cases y <;> exact q2.elim, (pe.keep k1).px (rs.keep k1)⟩, pe.px rs⟩
end
/-! ### targets -/
def cTg (f : Expr → Option TED) (c : Cc) : Expr → Option TGD
  | .Name x _ => if stoB c x = true then (ixL c.N x).map gNm else none
  | .Attribute o m _ => (f o).map fun te => gFlD te m
  | _ => none
def cTgs (f : Expr → Option TED) (c : Cc) : List Expr → Option TGsD
  | [] => some gNilD
  | e :: es => if (!isStar e) = true then (cTg f c e).bind fun t => (cTgs f c es).bind fun u => some (gConsD t u) else none
def cTgT (f : Expr → Option TED) (c : Cc) : Expr → Option TGD
  | .Tuple es _ _ => (cTgs f c es).map fun t => gTpD es.length t
  | e => cTg f c e
structure FitS (n : Nat) (Γ : Nat → SpD) (c : Cc) (X : Cx) (W : WX) : Prop where
  toFits : Fits n Γ c X W
  kd : c.sc.kind = .function
  pass : PassesOwn (model X.prog X.w) X.A X.env X.xe
  hs : X.stack = X.env :: X.outer
  hf : X.env.frame = some X.env.locals
section
variable {n : Nat} {Γ : Nat → SpD} {c : Cc} {X : Cx} {W : WX} {f : Expr → Option TED} {pos : Pos}
theorem cTg_ok (F : Fits n Γ c X W) (hf : ∀ e t, f e = some t → PE X e (LE X.K t noW)) {e : Expr} {t : TGD} (h : cTg f c e = some t) : PG X e (LG X.K t) := by
  cases e <;> try cases h
  · obtain ⟨te, h1, h⟩ := mS h
    subst h
    exact jg_fl F.toFx.att (hf _ _ h1) fun v => rfl
  · obtain ⟨h1, h⟩ := iS h
    obtain ⟨i, h2, h⟩ := mS h
    subst h
    obtain ⟨l1, l2⟩ := stoB_ok F h1
    exact jg_nm F.toFx.nd (F.ix h2) l1 l2
theorem cTgs_ok (F : Fits n Γ c X W) (hf : ∀ e t, f e = some t → PE X e (LE X.K t noW)) : ∀ {es : List Expr} {t : TGsD}, cTgs f c es = some t → PGs X es (LGs X.K t) ∧ (es.all fun e => !isStar e) = true
  | [], t, h => by cases h; exact ⟨jgs_nil, rfl⟩
  | e :: es, t, h => by
    obtain ⟨h0, h⟩ := iS h
    obtain ⟨t1, h1, h⟩ := bS h
    obtain ⟨t2, h2, h⟩ := bS h
    cases h
    obtain ⟨k1, k2⟩ := cTgs_ok F hf h2
    refine ⟨jgs_cons (cTg_ok F hf h1) k1 (by rw [aeach_ok (by simpa using h0)]; rfl), by rw [List.all_cons, h0, k2]; rfl⟩
theorem cTgT_ok (F : Fits n Γ c X W) (hf : ∀ e t, f e = some t → PE X e (LE X.K t noW)) {e : Expr} {t : TGD} (h : cTgT f c e = some t) : PG X e (LG X.K t) := by
  unfold cTgT at h
  split at h
  · obtain ⟨t1, h1, h⟩ := mS h
    subst h
    obtain ⟨k1, k2⟩ := cTgs_ok F hf h1
    obtain ⟨a1, a2⟩ := aeach_len (env := X.env) k2
    exact jg_tp F.toFx.calm k1 a1 a2
  · exact cTg_ok F hf h
end
/-! ### statements -/
def isLcE : Expr → Bool
  | .ListComp .. => true
  | .SetComp .. => true
  | .DictComp .. => true
  | _ => false
theorem swN_ok {e : Expr} {tg : Option Expr} {l : Nat} {env : Env} (h : isLcE e = false) : swapsWith e tg l env = pure false := by
  cases e <;> first | rfl | cases h
theorem swA_ok {e : Expr} {o : Expr} {m : Str} {p : Pos} {l : Nat} {env : Env} : swapsWith e (some (.Attribute o m p)) l env = pure false := by
  cases e <;> rfl
theorem swI_ok {e : Expr} {o i : Expr} {p : Pos} {l : Nat} {env : Env} : swapsWith e (some (.Subscript o i p)) l env = pure false := by
  cases e <;> rfl
theorem swT_ok {e : Expr} {es : List Expr} {k : Nat} {p : Pos} {l : Nat} {env : Env} : swapsWith e (some (.Tuple es k p)) l env = pure false := by
  cases e <;> rfl
def isTupE : Expr → Bool
  | .Tuple .. => true
  | _ => false
def isNmE : Expr → Bool
  | .Name .. => true
  | _ => false
def isAugT : Expr → Bool
  | .Attribute .. => true
  | _ => false
/-- the stores of a tuple display to a tuple of targets are no swap -/
def noSw (tg e : Expr) : Bool := match tg, e with
  | .Tuple ts _ _, .Tuple vs _ _ => ts.any (fun t => !isNmE t) || (vs.all (foldedForSure 8) || !(ts.length == 2 || ts.length == 3))
  | .List .., _ => false
  | _, _ => true
def swLine (ts : List Expr) : Nat := (ts.head?.map (·.pos.line)).getD 0
/-- the names of a swap -/
def swNms (c : Cc) (l : Nat) : List Expr → Option (List (Str × Nat))
  | [] => some []
  | .Name x p :: es => if (decide (c.sc.names.lookup x = some .local) && p.line == l) = true then (ixL c.N x).bind fun i => (swNms c l es).map ((x, i) :: ·) else none
  | _ => none
def swPar (f : Expr → Option TED) (c : Cc) (tg e : Expr) : Option TSD := match tg, e with
  | .Tuple ts _ _, .Tuple vs _ _ => if (!(vs.all (foldedForSure 8)) && (!(vs.all (constantsAlone 8)) && decide (vs.length = ts.length))) = true then
      (swNms c (swLine ts) ts).bind fun xs => (cA f vs).bind fun ta => (match xs with
        | [(_, i), (_, j)] => if decide (i ≠ j) = true then some (sPar i j ta) else none
        | [(_, i), (_, j), (_, l)] => if decide (i ≠ j ∧ i ≠ l ∧ j ≠ l) = true then some (sPar3 i j l ta) else none
        | _ => none) else none
  | _, _ => none
def cAsg (r : Rc) (c : Cc) (tg e : Expr) : Option TSD := match tg with
  | .Name x _ => if stoB c x = true then (ixL c.N x).bind fun i => (match e with
      | .ListComp elt [⟨t, iter, ifs, 0⟩] scope _ => (cLc r c elt t iter ifs scope).map fun p => sAsg (tLcD p.1 p.2.1 p.2.2.1 p.2.2.2.1 p.2.2.2.2) (gNm i)
      | e => if (!isLcE e) = true then (r.E c e).map fun te => sAsg te (gNm i) else none) else none
  | .Attribute o m _ => (r.E c o).bind fun to => (r.E c e).bind fun te => some (sFld to te m)
  | .Subscript o i _ => if (!isSl i) = true then (r.E c o).bind fun to => (r.E c i).bind fun ti => (r.E c e).bind fun te => some (sIx to ti te) else none
  | .Tuple ts k p => if noSw (.Tuple ts k p) e = true then (r.E c e).bind fun te => (cTgT (r.E c) c (.Tuple ts k p)).bind fun g => some (sAsg te g) else swPar (r.E c) c (.Tuple ts k p) e
  | _ => none
def cSs (st : Stmt → Option TSD) : List Stmt → Option TSD
  | [] => some sNext
  | s :: ss => (st s).bind fun t => (cSs st ss).bind fun u => some (sSeq t u)
section
variable {n : Nat} {Γ : Nat → SpD} {c : Cc} {X : Cx} {W : WX} {f : Expr → Option TED} {pos : Pos} {r : Rc}
theorem filterMap_lt {α β : Type} {g : α → Option β} : ∀ {ts : List α}, (∃ t ∈ ts, g t = none) → (ts.filterMap g).length < ts.length
  | [], h => by obtain ⟨t, h, _⟩ := h; cases h
  | t :: ts, h => by
    rw [List.filterMap_cons]
    cases e : g t with
    | none => simp only [List.length_cons]; exact Nat.lt_succ_of_le (List.length_filterMap_le _ _)
    | some b =>
      simp only [List.length_cons]
      obtain ⟨u, h1, h2⟩ := h
      rcases List.mem_cons.mp h1 with e2 | h1
      · subst e2; rw [e] at h2; cases h2
      · exact Nat.succ_lt_succ (filterMap_lt ⟨u, h1, h2⟩)
theorem noSw_ok {ts : List Expr} {k : Nat} {p : Pos} {e : Expr} {env : Env} (h : noSw (.Tuple ts k p) e = true) : swappedStores [.Tuple ts k p] e env = pure none := by
  cases e with
  | Tuple vs k2 p2 =>
    unfold swappedStores
    simp only [noSw, Bool.or_eq_true] at h
    dsimp only
    split
    · rfl
    · rename_i a1
      split
      · rfl
      · split
        · rfl
        · rename_i a3
          rcases h with h | h | h
          · exfalso
            obtain ⟨t, ht, hn⟩ := List.any_eq_true.mp h
            refine a3 ?_
            rw [Bool.or_eq_true]
            left
            simp only [bne_iff_ne, ne_eq]
            exact Nat.ne_of_lt (filterMap_lt ⟨t, ht, by cases t <;> first | rfl | cases hn⟩)
          · rw [if_pos h]
          · exfalso
            refine a1 ?_
            rw [h]
            rfl
  | _ => rfl
theorem swNms_inv {l : Nat} {t : Expr} {ts : List Expr} {xs : List (Str × Nat)} (h : swNms c l (t :: ts) = some xs) : ∃ x p i xs', t = .Name x p ∧ c.sc.names.lookup x = some .local ∧ (p.line == l) = true ∧ ixL c.N x = some i ∧ swNms c l ts = some xs' ∧ xs = (x, i) :: xs' := by
  cases t <;> try cases h
  rename_i x p
  obtain ⟨h1, h⟩ := iS h
  obtain ⟨h2, h3⟩ := andB h1
  obtain ⟨i, h4, h⟩ := bS h
  obtain ⟨xs', h5, h⟩ := mS h
  exact ⟨x, p, i, xs', rfl, of_decide_eq_true h2, h3, h4, h5, h.symm⟩
theorem swNms_nil {l : Nat} {ts : List Expr} (h : swNms c l ts = some []) : ts = [] := by
  cases ts with
  | nil => rfl
  | cons t ts =>
    obtain ⟨_, _, _, _, _, _, _, _, _, h⟩ := swNms_inv h
    cases h
theorem noStar_any {vs : List Expr} (h : (vs.all fun e => !isStar e) = true) : (vs.any fun | .Starred .. => true | _ => false) = false := by
  rw [List.any_eq_false]
  intro e he
  have := List.all_eq_true.mp h e he
  cases e <;> first | (simp [isStar] at this; done) | (intro z; cases z)
theorem swPar_ok (F : FitS n Γ c X W) (hf : ∀ e t, f e = some t → PE X e (LE X.K t W)) {tg e : Expr} {t : TSD} (h : swPar f c tg e = some t) : PS X (.Assign [tg] e pos) (LSt X.K t W) := by
  have G := F.toFits.toFx
  unfold swPar at h
  split at h
  · rename_i ts k p vs k2 p2
    obtain ⟨h0, h⟩ := iS h
    obtain ⟨f1, h0⟩ := andB h0
    obtain ⟨f2, f3⟩ := andB h0
    have f3 := of_decide_eq_true f3
    have f1 : vs.all (foldedForSure 8) = false := by simpa using f1
    have f2 : vs.all (constantsAlone 8) = false := by simpa using f2
    obtain ⟨xs, h1, h⟩ := bS h
    obtain ⟨ta, h2, h⟩ := bS h
    obtain ⟨ka, kb⟩ := cA_ok hf h2
    have hkd : X.env.blockKind = .function := by
      unfold Env.blockKind
      rw [F.toFits.sc, F.kd]
      rfl
    have star := noStar_any kb
    split at h
    · rename_i x i y j _
      obtain ⟨hij, h⟩ := iS h
      have hij := of_decide_eq_true hij
      cases h
      cases ts with
      | nil => cases h1
      | cons t1 ts =>
        obtain ⟨x1, p1, i1, xs1, rfl, l1, m1, n1, s1, e1⟩ := swNms_inv h1
        cases e1
        cases ts with
        | nil => cases s1
        | cons t2 ts =>
          obtain ⟨x2, p3, i2, xs2, rfl, l2, m2, n2, s2, e2⟩ := swNms_inv s1
          cases e2
          obtain rfl := swNms_nil s2
          match vs, f3 with
          | [a, b], _ =>
            have hxy : x ≠ y := fun z => hij (by subst z; rw [n1] at n2; exact Option.some.inj n2)
            have q1 : X.env.kindOf x = some .local := by unfold Env.kindOf; rw [F.toFits.sc]; exact l1
            have q2 : X.env.kindOf y = some .local := by unfold Env.kindOf; rw [F.toFits.sc]; exact l2
            have m2' : (p3.line == p1.line) = true := m2
            refine js_par G.calm G.nd (F.toFits.ix n1) (F.toFits.ix n2) hij (by rw [F.toFits.sc]; exact l1) (by rw [F.toFits.sc]; exact l2) ka ?_
            unfold swappedStores
            dsimp only
            rw [hkd, if_neg (by simp)]
            have e3 : List.filterMap (fun q => match q with
                | Expr.Name id pos => if (X.env.kindOf id == some NameKind.local && pos.line == (Option.map (fun u => u.pos.line) [Expr.Name x p1, Expr.Name y p3].head?).getD 0) = true then some id else none
                | _ => none) [Expr.Name x p1, Expr.Name y p3] = [x, y] := by
              simp only [List.filterMap_cons, List.filterMap_nil, List.head?_cons, Option.map_some, Option.getD_some, q1, q2]
              rw [show (Expr.Name x p1).pos.line = p1.line from rfl]
              rw [m2']
              simp
            have e4 : [x, y].eraseDups = [x, y] := by
              have : (y == x) = false := by simpa using fun z => hxy z.symm
              simp [List.eraseDups_cons, this]
            split
            · rename_i w
              exact Bool.noConfusion (star.symm.trans w)
            · split
              · rename_i w
                rw [Bool.or_eq_true] at w
                rcases w with w | w
                · have w' : ([x, y].length != [Expr.Name x p1, Expr.Name y p3].length) = true := by rw [← e3]; exact w
                  cases w'
                · have w' : ([x, y].eraseDups.length != [x, y].length) = true := by rw [← e3]; exact w
                  rw [e4] at w'
                  simp at w'
              · rw [f1, if_neg (by decide), f2, if_neg (by decide)]
                exact congrArg (fun z => pure (some z)) e3
    · rename_i x i y j z l _
      obtain ⟨hd, h⟩ := iS h
      obtain ⟨hij, hil, hjl⟩ := of_decide_eq_true hd
      cases h
      cases ts with
      | nil => cases h1
      | cons t1 ts =>
        obtain ⟨x1, p1, i1, xs1, rfl, l1, m1, n1, s1, e1⟩ := swNms_inv h1
        cases e1
        cases ts with
        | nil => cases s1
        | cons t2 ts =>
          obtain ⟨x2, p3, i2, xs2, rfl, l2, m2, n2, s2, e2⟩ := swNms_inv s1
          cases e2
          cases ts with
          | nil => cases s2
          | cons t3 ts =>
            obtain ⟨x3, p4, i3, xs3, rfl, l3, m3, n3, s3, e3⟩ := swNms_inv s2
            cases e3
            obtain rfl := swNms_nil s3
            match vs, f3 with
            | [a, b, d], _ =>
              have hxy : x ≠ y := fun w => hij (by subst w; rw [n1] at n2; exact Option.some.inj n2)
              have hxz : x ≠ z := fun w => hil (by subst w; rw [n1] at n3; exact Option.some.inj n3)
              have hyz : y ≠ z := fun w => hjl (by subst w; rw [n2] at n3; exact Option.some.inj n3)
              have q1 : X.env.kindOf x = some .local := by unfold Env.kindOf; rw [F.toFits.sc]; exact l1
              have q2 : X.env.kindOf y = some .local := by unfold Env.kindOf; rw [F.toFits.sc]; exact l2
              have q3 : X.env.kindOf z = some .local := by unfold Env.kindOf; rw [F.toFits.sc]; exact l3
              have m2' : (p3.line == p1.line) = true := m2
              have m3' : (p4.line == p1.line) = true := m3
              refine js_par3 G.calm G.nd (F.toFits.ix n1) (F.toFits.ix n2) (F.toFits.ix n3) hij hil hjl (by rw [F.toFits.sc]; exact l1) (by rw [F.toFits.sc]; exact l2) (by rw [F.toFits.sc]; exact l3) ka ?_
              unfold swappedStores
              dsimp only
              rw [hkd, if_neg (by simp)]
              have e3 : List.filterMap (fun q => match q with
                  | Expr.Name id pos => if (X.env.kindOf id == some NameKind.local && pos.line == (Option.map (fun u => u.pos.line) [Expr.Name x p1, Expr.Name y p3, Expr.Name z p4].head?).getD 0) = true then some id else none
                  | _ => none) [Expr.Name x p1, Expr.Name y p3, Expr.Name z p4] = [x, y, z] := by
                simp only [List.filterMap_cons, List.filterMap_nil, List.head?_cons, Option.map_some, Option.getD_some, q1, q2, q3]
                rw [show (Expr.Name x p1).pos.line = p1.line from rfl]
                rw [m2', m3']
                simp
              have e4 : [x, y, z].eraseDups = [x, y, z] := by
                have w1 : (y == x) = false := by simpa using fun w => hxy w.symm
                have w2 : (z == x) = false := by simpa using fun w => hxz w.symm
                have w3 : (z == y) = false := by simpa using fun w => hyz w.symm
                simp [List.eraseDups_cons, w1, w2, w3]
              split
              · rename_i w
                exact Bool.noConfusion (star.symm.trans w)
              · split
                · rename_i w
                  rw [Bool.or_eq_true] at w
                  rcases w with w | w
                  · have w' : ([x, y, z].length != [Expr.Name x p1, Expr.Name y p3, Expr.Name z p4].length) = true := by rw [← e3]; exact w
                    cases w'
                  · have w' : ([x, y, z].eraseDups.length != [x, y, z].length) = true := by rw [← e3]; exact w
                    rw [e4] at w'
                    simp at w'
                · rw [f1, if_neg (by decide), f2, if_neg (by decide)]
                  exact congrArg (fun z => pure (some z)) e3
    · cases h
  · cases h
end
def sBrk : TSD := fun D σ G => D.bk σ G
def sCnt : TSD := fun D σ G => D.ct σ G
end Y

/-! Y14: the compiler of statements. -/
namespace Y
open PySem PySem.Spec PyProof.Rows L2
variable [T : Tab]
/-! ### except suites -/
abbrev XT : Type := Nat → Addr → TED
def cXs (f : Expr → Option XT) : List Expr → Option (Nat → Addr → TAD)
  | [] => some fun _ _ => tNilD
  | e :: es => if (!isStar e) = true then (f e).bind fun t => (cXs f es).bind fun u => some fun k a => tConsD (t k a) (u k a) else none
def cXB (f : Expr → Option XT) : BoolOp → List Expr → Option XT
  | _, [] => none
  | _, [e] => f e
  | .And, e :: e' :: es => (f e).bind fun t => (cXB f .And (e' :: es)).bind fun u => some fun k a => tAndV (t k a) (u k a)
  | .Or, e :: e' :: es => (f e).bind fun t => (cXB f .Or (e' :: es)).bind fun u => some fun k a => tOrV (t k a) (u k a)
def cX (c : Cc) (f : Expr → Option XT) : Expr → Option XT
  | .Constant k _ _ => (cKon k).map fun t _ _ => t
  | .Name x _ => if isVis c x = true then (cNm c x).map fun t _ _ => t else none
  | .List es _ => (cXs f es).map fun t k a => tLstD (t k a)
  | .Tuple es _ _ => (cXs f es).map fun t k a => tTupD (t k a)
  | .BoolOp op es _ => cXB f op es
  | .UnaryOp .Not e _ => (f e).map fun t k a => tNotVD (t k a)
  | .Call (.Name y _) [o, .Name x _] [] _ => if (decide (y = "isinstance") && (isG c y && (isG c x && (nodbg x && (T.exq x && !isStar o))))) = true then (f o).map fun t k a => tIsE k a x (t k a) else none
  | _ => none
def cXN (c : Cc) : Nat → Expr → Option XT
  | 0 => fun _ => none
  | n + 1 => cX c (cXN c n)
def cU (c : Cc) : Stmt → Option (Nat → Addr → TSD)
  | .Return none _ => some fun _ _ => sRetN
  | .Return (some e) _ => (cXN c 8 e).map fun t k a => sRet (t k a)
  | .Pass _ => some fun _ _ => sNext
  | _ => none
def cUs (c : Cc) : List Stmt → Option (Nat → Addr → TSD)
  | [] => some fun _ _ => sNext
  | s :: ss => (cU c s).bind fun t => (cUs c ss).bind fun u => some fun k a => sSeq (t k a) (u k a)
section
variable {n : Nat} {Γ : Nat → SpD} {c : Cc} {X : Cx} {W : WX} {pos : Pos} {f : Expr → Option XT} {k : Nat} {a : Addr} {oe : Obj} {pn : List (Addr × Obj)}
theorem cXs_ok {Y' : Cx} (hf : ∀ e t, f e = some t → PE Y' e (LE Y'.K (t k a) noW)) : ∀ {es : List Expr} {t : Nat → Addr → TAD}, cXs f es = some t → PA Y' es (LA Y'.K (t k a) noW)
  | [], _, h => by cases h; exact ja_nil
  | e :: es, t, h => by
    obtain ⟨h1, h2⟩ := iS h
    obtain ⟨te, h3, h4⟩ := bS h2
    obtain ⟨tr, h5, h6⟩ := bS h4
    cases h6
    exact ja_cons (hf e te h3) (cXs_ok hf h5) (star_ok (by simpa using h1))
theorem cXB_ok {Y' : Cx} (hf : ∀ e t, f e = some t → PE Y' e (LE Y'.K (t k a) noW)) {op : BoolOp} : ∀ {es : List Expr} {t : XT}, cXB f op es = some t → PE Y' (.BoolOp op es pos) (LE Y'.K (t k a) noW)
  | [], t, h => by cases op <;> cases h
  | [e], t, h => by
    cases op <;> exact je_one (hf _ _ h)
  | e :: e' :: es, t, h => by
    cases op
    · obtain ⟨te, h1, h⟩ := bS h
      obtain ⟨tu, h2, h⟩ := bS h
      cases h
      exact je_and (hf _ _ h1) (cXB_ok hf h2)
    · obtain ⟨te, h1, h⟩ := bS h
      obtain ⟨tu, h2, h⟩ := bS h
      cases h
      exact je_or (hf _ _ h1) (cXB_ok hf h2)
theorem cX_ok (F : Fits n Γ c X W) (hz : Zc (.ref (He.ga X.K (T.cn k))) none oe) (hv : ∃ vs, oe.data = .fields vs) (hf : ∀ e t, f e = some t → PE (X.suite a ((a, oe) :: pn)) e (LE X.K (t k a) noW)) {e : Expr} {t : XT} (h : cX c f e = some t) : PE (X.suite a ((a, oe) :: pn)) e (LE X.K (t k a) noW) := by
  unfold cX at h
  split at h
  · obtain ⟨t', h1, h⟩ := mS h
    subst h
    exact cKon_ok (X := X.suite a ((a, oe) :: pn)) h1
  · obtain ⟨h0, h⟩ := iS h
    obtain ⟨t', h1, h⟩ := mS h
    subst h
    unfold cNm at h1
    rw [if_pos h0] at h1
    obtain ⟨h2, h1⟩ := iS h1
    obtain ⟨i, h3, h4⟩ := mS h1
    subst h4
    obtain ⟨d1, d2, d3⟩ := nodbg_ok h2
    exact je_var (X := X.suite a ((a, oe) :: pn)) (F.ix h3) (isVis_ok F h0) d1 d2
  · obtain ⟨t', h1, h⟩ := mS h
    subst h
    exact je_lst (X := X.suite a ((a, oe) :: pn)) (cXs_ok hf h1)
  · obtain ⟨t', h1, h⟩ := mS h
    subst h
    exact je_tup (X := X.suite a ((a, oe) :: pn)) (cXs_ok hf h1)
  · exact cXB_ok (Y' := X.suite a ((a, oe) :: pn)) hf h
  · obtain ⟨t', h1, h⟩ := mS h
    subst h
    exact je_not (X := X.suite a ((a, oe) :: pn)) (hf _ _ h1)
  · obtain ⟨h0, h⟩ := iS h
    obtain ⟨t', h1, h⟩ := mS h
    subst h
    obtain ⟨e1, h0⟩ := andB h0
    obtain ⟨e2, h0⟩ := andB h0
    obtain ⟨e3, h0⟩ := andB h0
    obtain ⟨e4, h0⟩ := andB h0
    obtain ⟨e5, e6⟩ := andB h0
    have ey := of_decide_eq_true e1
    subst ey
    exact je_isE F.toFx.eo e5 hz hv (isG_ok F e2) (F.toFx.fr _ (by decide)) (isG_ok F e3) (nodbg_ok e4).1 (hf _ _ h1) (star_ok (by simpa using e6))
  · cases h
theorem cXN_ok (F : Fits n Γ c X W) (hz : Zc (.ref (He.ga X.K (T.cn k))) none oe) (hv : ∃ vs, oe.data = .fields vs) : ∀ m e t, cXN c m e = some t → PE (X.suite a ((a, oe) :: pn)) e (LE X.K (t k a) noW)
  | 0 => fun _ _ h => by cases h
  | m + 1 => fun _ _ h => cX_ok F hz hv (cXN_ok F hz hv m) h
theorem cUs_ok (F : Fits n Γ c X W) (hz : Zc (.ref (He.ga X.K (T.cn k))) none oe) (hv : ∃ vs, oe.data = .fields vs) : ∀ {ss : List Stmt} {t : Nat → Addr → TSD}, cUs c ss = some t → PSs (X.suite a ((a, oe) :: pn)) ss (LSt X.K (t k a) noW)
  | [], t, h => by cases h; exact jss_nil (X := X.suite a ((a, oe) :: pn))
  | s :: ss, t, h => by
    obtain ⟨t1, h1, h⟩ := bS h
    obtain ⟨t2, h2, h⟩ := bS h
    cases h
    refine jss_cons (X := X.suite a ((a, oe) :: pn)) ?_ (cUs_ok F hz hv h2)
    unfold cU at h1
    split at h1
    · cases h1; exact js_retN (X := X.suite a ((a, oe) :: pn))
    · obtain ⟨t', h3, h1⟩ := mS h1
      subst h1
      exact js_ret (X := X.suite a ((a, oe) :: pn)) (cXN_ok F hz hv 8 _ _ h3)
    · cases h1; exact js_pass (X := X.suite a ((a, oe) :: pn))
    · cases h1
end
def cSt (Γ : Nat → SpD) (r : Rc) (st : Cc → Stmt → Option TSD) (c : Cc) : Stmt → Option TSD
  | .Return none _ => some sRetN
  | .Return (some e) _ => (r.E c e).map sRet
  | .Expr e _ => if (!isLcE e) = true then (r.E c e).map sExp else none
  | .Assign [tg] e _ => cAsg r c tg e
  | .AugAssign (.Name x _) .Add e _ => if stoB c x = true then (ixL c.N x).bind fun i => (r.E c e).map fun te => sAug i te oInAdd else none
  | .AugAssign (.Attribute o m _) .Add e _ => (r.E c o).bind fun to => (r.E c e).map fun te => sFldAug to te oInAdd m
  | .For tg iter body [] _ => if (!isSetE iter) = true then (cIt (r.E c) c iter).bind fun it => (cTgT (r.E c) c tg).bind fun g => (cSs (st c) body).map fun tb => sFor it g tb else none
  | .While t body [] _ => (r.T c t).bind fun tt => (cSs (st c) body).map fun tb => sWhl tt tb
  | .If t a b _ => (r.T c t).bind fun tt => (cSs (st c) a).bind fun ta => (cSs (st c) b).map fun tb => sIf tt ta tb
  | .Pass _ => some sNext
  | .Break _ => some sBrk
  | .Continue _ => some sCnt
  | .Delete [.Subscript o i _] _ => (r.E c o).bind fun to => (r.E c i).map fun ti => sDel to ti
  | .Raise (some (.Call (.Name x _) [.Constant (.str _) _ _] [] _)) none _ => if (isG c x && nodbg x) = true then (T.exc x).map sRaise else none
  | .Try body [.ExceptHandler (some (.Name x _)) (some m) (b0 :: suite) _] [] [] _ => if (isG c x && (nodbg x && (T.exq x && decide (c.sc.names.lookup m = some .local)))) = true then
      (ixL c.N m).bind fun i => (cSs (st c) body).bind fun tb => (cUs c (b0 :: suite)).map fun ts => sTryAs x i tb ts else none
  | _ => none
def stN (Γ : Nat → SpD) (r : Rc) : Nat → Cc → Stmt → Option TSD
  | 0 => fun _ _ => none
  | n + 1 => cSt Γ r (stN Γ r n)
section
variable {n : Nat} {Γ : Nat → SpD} {c : Cc} {X : Cx} {W : WX} {pos : Pos} {r : Rc}
theorem Fits.noW (F : Fits n Γ c X W) : Fits n Γ c X Y.noW := ⟨F.toFx, F.N, F.sc, F.fn, takes_no⟩
theorem cAsg_ok (R : RcOk n Γ r) (F : FitS n Γ c X W) {tg e : Expr} {t : TSD} (h : cAsg r c tg e = some t) : PS X (.Assign [tg] e pos) (LSt X.K t W) := by
  have G := F.toFits.toFx
  have hE : ∀ e t, r.E c e = some t → PE X e (LE X.K t W) := fun e t q => R.E c e t q X W F.toFits
  have hE0 : ∀ e t, r.E c e = some t → PE X e (LE X.K t noW) := fun e t q => R.E c e t q X noW F.toFits.noW
  have hkd : X.env.blockKind = .function := by
    unfold Env.blockKind
    rw [F.toFits.sc, F.kd]
    rfl
  unfold cAsg at h
  split at h
  · rename_i x px
    obtain ⟨h1, h⟩ := iS h
    obtain ⟨i, h2, h⟩ := bS h
    obtain ⟨l1, l2⟩ := stoB_ok F.toFits h1
    split at h
    · rename_i elt tg' iter ifs scope p2 _ _
      obtain ⟨p, h3, h⟩ := mS h
      subst h
      obtain ⟨k1, k2⟩ := cLc_ok (pos := p2) R F.toFits h3
      have hsw : ∃ b, swapsWith (.ListComp elt [⟨tg', iter, ifs, 0⟩] scope p2) (some (.Name x px)) pos.line X.env = pure b ∧ (b = true → X.env.scope.names.lookup x = some .local) := by
        refine ⟨X.env.blockKind == .function && X.env.kindOf x == some .local && px.line == (Expr.ListComp elt [⟨tg', iter, ifs, 0⟩] scope p2).pos.line && !(scope.names.any fun (n, k) => n == x && (k == .local || k == .cell)), rfl, fun hb => ?_⟩
        simp only [Bool.and_eq_true] at hb
        have := hb.1.1.2
        simpa [Env.kindOf] using this
      obtain ⟨b, e1, e2⟩ := hsw
      cases b with
      | true => exact k2 i x px pos (F.toFits.ix h2) (e2 rfl) e1
      | false => exact js_set G.nd (F.toFits.ix h2) l1 k1 e1 l2
    · obtain ⟨h3, h⟩ := iS h
      obtain ⟨te, h4, h⟩ := mS h
      subst h
      exact js_set G.nd (F.toFits.ix h2) l1 (hE _ _ h4) (swN_ok (by simpa using h3)) l2
  · obtain ⟨to, h1, h⟩ := bS h
    obtain ⟨te, h2, h⟩ := bS h
    cases h
    exact js_fld G.att (hE _ _ h1) (hE _ _ h2) swA_ok
  · rename_i o i p
    obtain ⟨h0, h⟩ := iS h
    obtain ⟨to, h1, h⟩ := bS h
    obtain ⟨ti, h2, h⟩ := bS h
    obtain ⟨te, h3, h⟩ := bS h
    cases h
    exact js_ix (hE _ _ h1) (hE _ _ h2) (hE _ _ h3) (fun v => by cases i <;> first | rfl | cases h0) (swI_ok (o := o) (i := i) (p := p) (l := pos.line) (env := X.env)) (by cases e <;> rfl) rfl
  · rename_i ts k p
    split at h
    · rename_i hn
      obtain ⟨te, h1, h⟩ := bS h
      obtain ⟨g, h2, h⟩ := bS h
      cases h
      exact js_asg (hE _ _ h1) (cTgT_ok F.toFits hE0 h2) (swT_ok (es := ts) (k := k) (p := p) (l := pos.line) (env := X.env)) (noSw_ok hn) rfl
    · exact swPar_ok F hE h
  · cases h
theorem cSs_ok {st : Stmt → Option TSD} (hs : ∀ s t, st s = some t → PS X s (LSt X.K t W)) : ∀ {ss : List Stmt} {t : TSD}, cSs st ss = some t → PSs X ss (LSt X.K t W)
  | [], t, h => by cases h; exact jss_nil
  | s :: ss, t, h => by
    obtain ⟨t1, h1, h⟩ := bS h
    obtain ⟨t2, h2, h⟩ := bS h
    cases h
    exact jss_cons (hs _ _ h1) (cSs_ok hs h2)
theorem cSt_ok (R : RcOk n Γ r) {st : Cc → Stmt → Option TSD} (S : ∀ c s t, st c s = some t → ∀ X W, FitS n Γ c X W → PS X s (LSt X.K t W)) (F : FitS n Γ c X W) {s : Stmt} {t : TSD} (h : cSt Γ r st c s = some t) : PS X s (LSt X.K t W) := by
  have G := F.toFits.toFx
  have hE : ∀ e t, r.E c e = some t → PE X e (LE X.K t W) := fun e t q => R.E c e t q X W F.toFits
  have hE0 : ∀ e t, r.E c e = some t → PE X e (LE X.K t noW) := fun e t q => R.E c e t q X noW F.toFits.noW
  have hT : ∀ e t, r.T c e = some t → PT X e (LT X.K t W) := fun e t q => R.T c e t q X W F.toFits
  have hS : ∀ s t, st c s = some t → PS X s (LSt X.K t W) := fun s t q => S c s t q X W F
  unfold cSt at h
  split at h
  · cases h; exact js_retN
  · obtain ⟨te, h1, h⟩ := mS h
    subst h
    exact js_ret (hE _ _ h1)
  · obtain ⟨h0, h⟩ := iS h
    obtain ⟨te, h1, h⟩ := mS h
    subst h
    exact js_exp (hE _ _ h1) (swN_ok (by simpa using h0))
  · exact cAsg_ok R F h
  · obtain ⟨h0, h⟩ := iS h
    obtain ⟨i, h1, h⟩ := bS h
    obtain ⟨te, h2, h⟩ := mS h
    subst h
    obtain ⟨l1, l2⟩ := stoB_ok F.toFits h0
    exact js_aug G.nd (F.toFits.ix h1) l1 (hE _ _ h2) ip_add_d l2
  · obtain ⟨to, h1, h⟩ := bS h
    obtain ⟨te, h2, h⟩ := mS h
    subst h
    exact js_fldaug G.att (hE _ _ h1) (hE _ _ h2) ip_add_d
  · obtain ⟨h0, h⟩ := iS h
    obtain ⟨it, h1, h⟩ := bS h
    obtain ⟨g, h2, h⟩ := bS h
    obtain ⟨tb, h3, h⟩ := mS h
    subst h
    exact js_for F.pass G.calm (cIt_ok F.toFits hE h1) (cTgT_ok F.toFits hE0 h2) (cSs_ok hS h3) (fold_ok (by simpa using h0))
  · obtain ⟨tt, h1, h⟩ := bS h
    obtain ⟨tb, h2, h⟩ := mS h
    subst h
    exact js_whl F.pass (hT _ _ h1) (cSs_ok hS h2)
  · obtain ⟨tt, h1, h⟩ := bS h
    obtain ⟨ta, h2, h⟩ := bS h
    obtain ⟨tb, h3, h⟩ := mS h
    subst h
    exact js_if (hT _ _ h1) (cSs_ok hS h2) (cSs_ok hS h3)
  · cases h; exact js_pass
  · cases h; exact js_brk
  · cases h; exact js_cnt
  · obtain ⟨to, h1, h⟩ := bS h
    obtain ⟨ti, h2, h⟩ := mS h
    subst h
    exact js_del (hE _ _ h1) (hE _ _ h2)
  · obtain ⟨h0, h⟩ := iS h
    obtain ⟨h1, h2⟩ := andB h0
    obtain ⟨k, h3, h⟩ := mS h
    subst h
    exact js_raise G.eo G.calm F.toFits.tk h3 (isG_ok F.toFits h1) (nodbg_ok h2).1
  · obtain ⟨h0, h⟩ := iS h
    obtain ⟨h1, h0⟩ := andB h0
    obtain ⟨h2, h0⟩ := andB h0
    obtain ⟨h3, h4⟩ := andB h0
    obtain ⟨i, h5, h⟩ := bS h
    obtain ⟨tb, h6, h⟩ := bS h
    obtain ⟨ts, h7, h⟩ := mS h
    subst h
    refine js_tryas G.eo F.hs F.hf G.nd (F.toFits.ix h5) (by unfold Env.kindOf; rw [F.toFits.sc]; exact of_decide_eq_true h4) (isG_ok F.toFits h1) (nodbg_ok h2).1 F.toFits.tk h3 (fun W' pn xe tk' ps => ?_) fun k a oe pn hz hv => cUs_ok F.toFits hz hv h7
    have F' : FitS n Γ c (X.tr pn xe) W' := ⟨⟨⟨G.rb, G.calm, G.nd, G.att, G.mo, G.mkO, G.cl, G.gl, G.fr, G.eo⟩, F.toFits.N, F.toFits.sc, F.toFits.fn, tk'⟩, F.kd, ps, F.hs, F.hf⟩
    exact cSs_ok (X := X.tr pn xe) (fun s t q => S c s t q _ _ F') h6
  · cases h
end
theorem stN_ok {n : Nat} {Γ : Nat → SpD} {r : Rc} (R : RcOk n Γ r) : ∀ m c s t, stN Γ r m c s = some t → ∀ X W, FitS n Γ c X W → PS X s (LSt X.K t W)
  | 0 => fun _ _ _ h => by cases h
  | m + 1 => fun _ _ _ h _ _ F => cSt_ok R (stN_ok R m) F h
/-- a def's body -/
def cBody (Γ : Nat → SpD) (c : Cc) (ss : List Stmt) : Option TSD := cSs (stN Γ (rcN Γ 30) 12 c) ss
theorem cBody_ok {n : Nat} {Γ : Nat → SpD} {c : Cc} {ss : List Stmt} {t : TSD} (h : cBody Γ c ss = some t) {X : Cx} {W : WX} (F : FitS n Γ c X W) : PSs X ss (LSt X.K t W) :=
  cSs_ok (fun s t q => stN_ok (rcN_ok n Γ 30) 12 c s t q X W F) h
end Y

/-! Y15: a def keeps the promise that its body's reading is; the end. -/
namespace Y
open PySem PySem.Spec PyProof.Rows L2
variable [T : Tab]
/-- the frame's values at the entry -/
def startD (k : Nat) (xs : List D) : St := xs.map some ++ List.replicate (k - xs.length) none
def runD (np k : Nat) (t : TSD) : SpD := fun xs G Q E => xs.length = np ∧ t { nx := fun _ G1 => Q .non G1, rt := Q, bk := fun _ _ => False, ct := fun _ _ => False, ex := fun c fs _ G1 => E c fs G1 } (startD k xs) G
theorem RS.begin {K : PySem.W.Frag} {H : Hp} {ds : List D} {vs : List V} {N : List Str} (r : RDs K H ds vs) : RS K H (startD N.length ds) (L2.start N vs) := by
  unfold startD L2.start
  refine ⟨by simp [r.len], fun i d e => ?_⟩
  have hl := r.len
  by_cases hi : i < ds.length
  · rw [List.getElem?_append_left (by simpa using hi), List.getElem?_map] at e
    cases q : ds[i]? with
    | none => rw [q] at e; cases e
    | some x =>
      rw [q] at e
      cases e
      obtain ⟨v, e1, rv⟩ := r.get q
      refine ⟨v, ?_, rv⟩
      rw [List.getElem?_append_left (by simp; omega), List.getElem?_map, e1]
      rfl
  · rw [List.getElem?_append_right (by simpa using hi), List.getElem?_replicate] at e
    split at e <;> cases e
/-- what holds of the callees of level n and of the module -/
structure Lv (P : Program) (w : World) (K : PySem.W.Frag) (mg : Str → Option Value) (base : Heap) (n : Nat) (Γ : Nat → SpD) : Prop where
  att : AttOk K
  mo : ∀ c m na ks i dv, T.meth c m na ks = some (i, dv) → Cls K (He.ga K (T.cn c)) ∧ ∃ f fd ps, Meth K (He.ga K (T.cn c)) m f ∧ FnG P w K mg base n f fd ps (LS K (Γ i)) ∧ ∀ H, ∃ dvs, RDs K H dv dvs ∧ BdOk K fd ps (na + 1) ks dvs
  mkO : ∀ x na ks c i dv, T.make x na ks = some (c, i, dv) → mg x = some (.ref (He.ga K (T.cn c))) ∧ ∃ f fd ps, Mk K (He.ga K (T.cn c)) f ∧ FnG P w K mg base n f fd ps (LS K (Γ i)) ∧ ∀ H, ∃ dvs, RDs K H dv dvs ∧ BdOk K fd ps (na + 1) ks dvs
  cl : ∀ x na ks i dv, T.call x na ks = some (i, dv) → ∃ f fd ps, mg x = some (.ref f) ∧ PySem.W.keepIn K (.ref f) = true ∧ FnG P w K mg base n f fd ps (LS K (Γ i)) ∧ ∀ H, ∃ dvs, RDs K H dv dvs ∧ BdOk K fd ps na ks dvs
  gl : ∀ x d, T.glob x = some d → ∃ v u, mg x = some u ∧ RelV v u ∧ ∀ H, RD K H d v
  fr : ∀ x, x ∈ blts → mg x = none
  eo : ExOk K mg
section
variable {P : Program} {w : World} {K : PySem.W.Frag} {mg : Str → Option Value} {base : Heap} {n : Nat} {Γ : Nat → SpD} {x qual : Str} {params : Arguments} {body : List Stmt} {scope : Scope} {dvs : List V} {kws : List (Str × V)} {f : Addr} {fd : FuncData}
theorem fnG_of {N ps : List Str} {t : TSD} (F : FunD K x qual params body scope dvs kws f fd) (S : FnScope N ps scope) (hb : cBody Γ ⟨N, scope, fun _ => true⟩ body = some t) (L : Lv P w K mg base n Γ) :
    FnG P w K mg base (n + 1) f fd ps (LS K (runD ps.length N.length t)) := by
  obtain ⟨oc, od, dV, kV, doc, pm, an, cdv, ct, osl, rfl, lk, hcd, _, _⟩ := F.ex
  refine ⟨fun vs H Q E ⟨ds, G, Q', E', r, _, h, _⟩ => by rw [← r.len]; exact h.1, fun A outer s H args us vs Q E hr e0 hbt rv hsp => ?_⟩
  obtain ⟨ds, G, Q', E', rd, rh, ⟨hl0, hq⟩, pv, px⟩ := hsp
  have hl : vs.length = ps.length := by rw [← rd.len]; exact hl0
  have KX : K.In s.heap := e0.mod.kin.keeps fun b o e => (e0.bs b o e).1
  have lim : s.heap.NoLimit := e0.mod.nolimit.keeps fun b o e => (e0.bs b o e).1
  have hkind : ∀ y ∈ ps.zip us, scope.names.lookup y.1 = some .local ∨ (scope.names.lookup y.1 = some .cell ∧ ((cellsFrom (s.heap.objs.size + 1) scope.names []).lookup y.1).isSome = true) := fun ⟨m, v⟩ hy => by
    rcases S.par m (List.of_mem_zip hy).1 with q | q
    · exact .inl q
    · exact .inr ⟨q, PySem.W.cellsFrom_some _ _ _ (.inl q)⟩
  refine codeAny_call_function (by have := hr.dp; omega) (KX _ _ lk) rfl S.co S.gen rfl (PySem.W.codeRec_of KX hcd) (hbt _ _ _ _ ?_)
  refine wpAny_newFunctionEnv_cells S.kind hkind fun env he s1 z => ?_
  subst he
  refine ⟨lim.keeps z.toInCall.keep, codeAny_func ?_⟩
  let X := cxOf (CX P w) P w K mg base N qual scope f cdv A outer s H E
  have tk : Takes X (fun cls d _ H' => E cls d H') := takes_of rfl rfl rfl rfl
  have FS : FitS n Γ ⟨N, scope, fun _ => true⟩ X (fun cls d _ H' => E cls d H') :=
    ⟨⟨⟨hr.body _, rfl, S.nd, L.att, L.mo, L.mkO, L.cl, L.gl, L.fr, L.eo⟩, rfl, rfl, fun _ h => h, tk⟩, S.kind, passes_of rfl, rfl, rfl⟩
  have ht := cBody_ok hb FS
  have I : Inv X [] (L2.start N vs) H s1 := inv_start S hr.hd e0 hl rv z
  have hrun : LSt K t (fun cls d _ H' => E cls d H') { nx := fun _ H' => Q .non H', rt := Q } (L2.start N vs) H :=
    ⟨_, G, _, RS.begin rd, rh, hq, ⟨fun σ' G' σv' H' k rs rh' q => pv _ _ G' H' k .non rh' q, pv, fun _ _ _ _ _ _ _ q => q.elim, fun _ _ _ _ _ _ _ q => q.elim, fun c fs cls dd σ' G' σv' H' k rx _ rh' q => px c fs cls dd G' H' k rx rh' q⟩⟩
  refine wpAny_mono (ht.run [] s1 (L2.start N vs) H _ I hrun) (fun fl s' hs => ?_) fun e s' hs => hs
  have fin : ∀ {σ' : L2.St} {H' : Hp} {v : V} {u : Value}, Inv X [] σ' H' s' → RelV v u → Q v H' → CE outer P w H s Q u s' := fun {σ' H' v u} J rv q => ⟨v, H', J.os, J.bare, J.base, J.hok, rv, q⟩
  cases fl with
  | ret u => obtain ⟨v, σ', H', J, rv, q⟩ := hs; exact fin J rv q
  | next => obtain ⟨σ', H', J, q⟩ := hs; exact fin (v := V.non) (u := Value.none) J rfl q
  | brk => obtain ⟨_, _, _, q⟩ := hs; exact False.elim q
  | cont => obtain ⟨_, _, _, q⟩ := hs; exact False.elim q
/-- a def without defaults, every parameter given by place -/
theorem bd_plain {ps : List Str} (F : FunD K x qual params body scope [] kws f fd)
    (h : ∀ (kV doc pm : Value) (an : Option Addr) (cdv ct : Value) (us : List Value), us.length = ps.length → bindArgs (PySem.W.fnOf x qual params body scope .none kV doc pm an cdv ct) ⟨us, []⟩ = pure (ps.zip us)) : ∀ H, ∃ dvs, RDs K H [] dvs ∧ BdOk K fd ps ps.length [] dvs := fun H =>
  ⟨[], .nil, [], .nil, fun s us ws KI h1 h2 => by
    have hw : ws = [] := List.length_eq_zero_iff.mp h2
    subst hw
    have := F.bindsA h s us h1
    simpa using this⟩
/-- level 0: nothing is promised -/
theorem fnG_zero {ps : List Str} : FnG P w K mg base 0 f fd ps (LS K fun _ _ _ _ => False) :=
  ⟨fun _ _ _ _ ⟨_, _, _, _, _, _, h, _⟩ => h.elim, fun _ _ _ _ _ _ _ _ _ _ _ _ _ ⟨_, _, _, _, _, _, h, _⟩ => h.elim⟩
end
/-! ### the end -/
section
variable {P : Program} {w : World} {K : PySem.W.Frag} {mg mb : Str → Option Value} {n : Nat} {fa a : Addr} {fd : FuncData} {x : Str} {sp : Sp} {s₁ : Shared} {vs : List Value} {ns : List Int}
/-- the law's call at a heap that tells at most the script -/
theorem end_at (KX : K.In s₁.heap) (hns : s₁.heap.Ns mainGlobals mg) (hb : s₁.heap.Ns builtinsNs mb) (hbb : ∀ x : Str, x ≠ "__name__" → mb x = bootBuiltins x) (hlim : s₁.heap.NoLimit) (hg : s₁.gens = #[]) (hr : Rm n callerA)
    (F : ∀ base : Heap, K.In base → base.Ns mainGlobals mg → FnG P w K mg base n fa fd [x] sp) (hbind : ∀ (s : Shared) (u : Value), BindsTo s fd ⟨[u], []⟩ [(x, u)])
    {H : Hp} (hO : Only H) (hok : HOk P w H s₁.heap) (hid : ∀ b o, s₁.heap.get? b = some o → K.lookup b = some o ∨ (∃ es ep, o.data = .dict es ep) → H b = none) (hsp : sp [.ref a] H (fun v _ => v = .bl true) fun _ _ _ => False) :
    codeAny (model P w) callerA (.call (.ref fa) ⟨[.ref a], []⟩) (fun r s' => r = .ok (.ret (.bool true)) ∧ OldK s₁.heap s'.heap ∧ s'.os = s₁.os ∧ AllBare s'.gens) s₁ := by
  have toNs : ∀ {b : Addr} {m : Str → Option Value}, s₁.heap.Ns b m → (hidT s₁.heap H).Ns b m := fun {b m} ⟨o, es, ep, e, d, q⟩ => ⟨o, es, ep, hidT_get e (hid b o e (.inr ⟨es, ep, d⟩)), d, q⟩
  have toK : K.In (hidT s₁.heap H) := fun b o e => hidT_get (KX b o e) (hid b o (KX b o e) (.inl e))
  obtain ⟨mc, l1, l2⟩ := hlim
  have e0 : Env0 P w K mg (hidT s₁.heap H) callerA [] s₁ H :=
    ⟨rfl, ⟨toK, toNs hns, ⟨mb, toNs hb, hbb⟩, ⟨mc, toNs l1, l2⟩⟩, fun b o e => of_hidT e, Nat.le_of_eq (hidT_size _ _), trivial, fun b hm => (List.not_mem_nil hm).elim, hok, .of_eq hg⟩
  refine codeAny_mono ((F _ toK (toNs hns)).run callerA [] s₁ H ⟨[.ref a], []⟩ [.ref a] [.ref a] _ _ hr e0 (hbind s₁ (.ref a)) (.cons rfl .nil) hsp) fun r s' h => ?_
  match r, h with
  | .error e, h =>
    obtain ⟨_, _, _, _, _, _, _, _, _, _, _, _, _, q⟩ := h

  | .ok (.ret u), h =>
    obtain ⟨v, H', os, bare, un, hok', r', q⟩ := h
    obtain rfl : v = .bl true := q
    obtain rfl : u = Value.bool true := r'
    refine ⟨rfl, OldK.of_keep fun b o e => ?_, os, bare⟩
    rcases hO b with z | ⟨ob, xs, z⟩
    · exact un.keep b o e z (fun y => List.not_mem_nil y) (fun y => List.not_mem_nil y)
    · obtain ⟨e1, _⟩ := hok b _ z
      obtain ⟨e2, _⟩ := hok' b _ (un.frzs b ob _ z)
      rw [e2, ← e1, e]
end
end Y

/-! Y16: the end, from the law's promise. -/
namespace Y
open PySem PySem.Spec PyProof.Rows L2
variable [T : Tab]
theorem endG {P : Program} {w : World} {K : PySem.W.Frag} {mg mb : Str → Option Value} {n : Nat} {fa a : Addr} {fd : FuncData} {x : Str} {sp : SpD} {s₁ : Shared} {vs : List Value} {ns : List Int}
    (KX : K.In s₁.heap) (hns : s₁.heap.Ns mainGlobals mg) (hb : s₁.heap.Ns builtinsNs mb) (hbb : ∀ x : Str, x ≠ "__name__" → mb x = bootBuiltins x) (hlim : s₁.heap.NoLimit) (hg : s₁.gens = #[])
    (ha : s₁.heap.get? a = some { cls := .type "list", data := .seq vs.toArray }) (hi : IntsAre vs ns) (hl : ns.length ≤ sizeLine) (hr : Rm n callerA)
    (F : ∀ base : Heap, K.In base → base.Ns mainGlobals mg → FnG P w K mg base n fa fd [x] (LS K sp)) (hbind : ∀ (s : Shared) (u : Value), BindsTo s fd ⟨[u], []⟩ [(x, u)])
    (hsp : sp [.rol (ns.map D.int)] (fun _ => none) (fun d _ => d = .bl true) fun _ _ _ => False) :
    codeAny (model P w) callerA (.call (.ref fa) ⟨[.ref a], []⟩) (fun r s' => r = .ok (.ret (.bool true)) ∧ OldK s₁.heap s'.heap ∧ s'.os = s₁.os ∧ AllBare s'.gens) s₁ := by
  have rv := vals_ints hi
  have lenV := hi.length
  have give : ∀ H : Hp, Frz K H a (ns.map V.int) → LS K sp [.ref a] H (fun v _ => v = .bl true) fun _ _ _ => False := fun H hf =>
    ⟨[.rol (ns.map D.int)], _, _, _, .cons (.rol hf (RDs.ints ns)) .nil, fun _ _ e => (by cases e), hsp, fun d v G' H' k r _ q => by subst q; cases r; rfl, fun _ _ _ _ _ _ _ _ _ z => z⟩
  cases hk : K.lookup a with
  | some o =>
    have e := KX a o hk
    rw [ha] at e
    cases e
    exact end_at KX hns hb hbb hlim hg hr F hbind (H := fun _ => none) (fun _ => .inl rfl) (fun b u z => (by cases z)) (fun _ _ _ _ => rfl)
      (give _ (.inr ⟨_, vs.toArray, _, hk, rfl, rfl, rfl, by rw [List.size_toArray, lenV]; exact hl, by simpa using rv⟩))
  | none =>
    let H : Hp := fun b => if b = a then some (.frz { cls := .type "list", data := .seq vs.toArray } (.lst (ns.map V.int))) else none
    have at_a : H a = some (.frz { cls := .type "list", data := .seq vs.toArray } (.lst (ns.map V.int))) := if_pos rfl
    have off : ∀ {b}, b ≠ a → H b = none := fun h => if_neg h
    refine end_at KX hns hb hbb hlim hg hr F hbind (H := H) (fun b => ?_) (fun b u z => ?_) (fun b o e q => off fun h => ?_) (give H (.inl ⟨_, at_a⟩))
    · by_cases h : b = a
      · subst h; exact .inr ⟨_, _, at_a⟩
      · exact .inl (off h)
    · by_cases h : b = a
      · subst h
        rw [at_a] at z
        cases z
        exact ⟨ha, by rw [List.length_map]; exact hl, vs, _, rv, ha⟩
      · rw [off h] at z; cases z
    · subst h
      rcases q with q | ⟨es, ep, q⟩
      · rw [hk] at q; cases q
      · rw [ha] at e
        cases e
        cases q
theorem walkG {l : PySem.W.OpenLaw} {m n : Nat} {q : Program} {loose : List Str} {XP : (Str → Option Value) → Heap → Prop} {YP : World → Heap → Prop} {d : DefRec} {x : Str} {sp : SpD}
    (hm : l.most = some m) (hm2 : m ≤ sizeLine) (hdf : d.params.defaults = []) (hr : Rm n callerA)
    (F : ∀ (w : World) (mg : Str → Option Value) (fa : Addr) (h : Heap), YP w h → h.Ns mainGlobals mg → mg d.name = some (.ref fa) →
      ∃ (K : PySem.W.Frag) (fd : FuncData), K.In h ∧ (∀ (s : Shared) (u : Value), BindsTo s fd ⟨[u], []⟩ [(x, u)]) ∧
        ∀ base : Heap, K.In base → base.Ns mainGlobals mg → FnG l.prog w K mg base n fa fd [x] (LS K sp))
    (hsp : ∀ ns : List Int, ns.length ≤ m → sp [.rol (ns.map D.int)] (fun _ => none) (fun d _ => d = .bl true) fun _ _ _ => False) :
    PySem.W.WalkO q loose XP YP l.row.toRowW d [] (fun f vs => PySem.call f vs) := by
  refine Att.attach_call hm hdf fun w s₀ s₁ mg mb fa o pm cd doc a vs ns G Y ho hd hcd hmg hobj hints hlen hg => ?_
  obtain ⟨K, fd, KX, hb, hF⟩ := F w mg fa _ Y G.T.g hmg
  exact endG KX G.T.g G.T.b G.T.builtins G.T.nolimit hg hobj hints (Nat.le_trans hlen hm2) hr hF hb (hsp ns hlen)
theorem callerRm {n : Nat} (h : n ≤ 300) : Rm n callerA := ⟨rfl, by
  have : callerA.depth + 2 * 300 + 7 < recursionLimit := by decide
  omega, by
  have : callerA.units + 8 * 300 + 300 < cLine := by decide
  omega, rfl⟩
end Y

/-! Y17: a program's tables; all defs at all levels; the head's Hook. -/
namespace Y
open PySem PySem.Spec PyProof.Rows L2
theorem mem_lk {α β : Type} [BEq α] [LawfulBEq α] {k : α} {v : β} : ∀ {l : List (α × β)}, l.lookup k = some v → (k, v) ∈ l
  | [], h => by cases h
  | (a, b) :: l, h => by
    rw [List.lookup_cons] at h
    cases e : k == a with
    | true =>
      rw [e] at h
      cases h
      rw [eq_of_beq e]
      exact List.mem_cons_self
    | false =>
      rw [e] at h
      exact List.mem_cons_of_mem _ (mem_lk h)
abbrev Ky : Type := Str × Nat × List Str
/-- a module's constant -/
inductive Gv where
  | int (i : Int) | str (x : Str) | tup (x : List He.Dv) (ds : List D)
/-- the tables of a program -/
structure Tb where
  cns : List Str
  ncl : Nat
  excs : List (Str × Nat)
  exms : List ((Nat × Str) × Bool)
  atts : List (Nat × Str)
  calls : List (Ky × Nat × List D)
  meths : List ((Nat × Ky) × Nat × List D)
  makes : List (Ky × Nat × Nat × List D)
  globs : List (Str × Int)
  txts : List (Str × Str)
@[reducible] def Tb.tab (t : Tb) : Tab where
  cn i := t.cns.getD i Str.empty
  att c f := decide ((c, f) ∈ t.atts)
  call x na ks := t.calls.lookup (x, na, ks)
  meth c m na ks := t.meths.lookup (c, m, na, ks)
  make x na ks := t.makes.lookup (x, na, ks)
  exc x := t.excs.lookup x
  exi _ := none
  exm c x := t.exms.lookup (c, x)
  exq x := t.exms.any fun e => decide (e.1.2 = x)
  glob x := match t.globs.lookup x with
    | some i => some (.int i)
    | none => (t.txts.lookup x).map .str
/-- a def: where it stands, its names, text, slots, parameters, reading -/
structure DY where
  at_ : Str × Option Str
  name : Str
  qual : Str
  st : Stmt
  N : List Str
  np : Nat
  dfl : List He.Dv := []
  kwd : List (Str × He.Dv) := []
  b : (Nat → SpD) → TSD
def DY.ps (d : DY) : List Str := d.N.take d.np
def DY.defD (d : DY) : He.DefD := ⟨d.at_, d.name, d.qual, defArgs d.st, defBody d.st, defScope d.st, d.dfl, d.kwd⟩
def prmOf (ds : List DY) (Γ : Nat → SpD) (i : Nat) : SpD := match ds[i]? with
  | some d => runD d.np d.N.length (d.b Γ)
  | none => fun _ _ _ _ => False
/-- what def i promises at level n -/
def WW (ds : List DY) : Nat → Nat → SpD
  | 0 => fun _ _ _ _ _ => False
  | n + 1 => prmOf ds (WW ds n)
structure DY.Good [Tab] (d : DY) : Prop where
  sc : FnScope d.N d.ps (defScope d.st)
  len : d.ps.length = d.np
  bd : ∀ Γ, cBody Γ ⟨d.N, defScope d.st, fun _ => true⟩ (defBody d.st) = some (d.b Γ)
  bp : ∀ (kV doc pm : Value) (an : Option Addr) (cdv ct : Value) (us : List Value), us.length = d.ps.length → bindArgs (PySem.W.fnOf d.name d.qual (defArgs d.st) (defBody d.st) (defScope d.st) .none kV doc pm an cdv ct) ⟨us, []⟩ = pure (d.ps.zip us)
/-! ### the facts -/
def excCB (K : PySem.W.Frag) (D : Addr) : Bool := decide (PySem.W.findIn K (.ref D) "__getattribute__" = some (some (.builtin "BaseException.__getattribute__"))) && (decide (PySem.W.findIn K (.ref D) "__getattr__" = some none) &&
  (decide (PySem.W.subIn K (.ref D) (.type "BaseException") = some true) && (PySem.W.hasDictIn K D && (decide (PySem.W.findIn K (.ref D) "__class__" = some (some (.builtin "object.__class__"))) &&
  (decide (PySem.W.specialIn K (.builtin "object.__class__") "__get__" = some (some (.builtin "getset_descriptor.__get__"))) && (decide (PySem.W.takesIn K (.builtin "object.__class__") = some true) && decide (PySem.W.mroIn K D (.type "object") = some true)))))))
theorem excCB_ok {K : PySem.W.Frag} {D : Addr} (h : excCB K D = true) : ExcC K D := by
  unfold excCB at h
  simp only [Bool.and_eq_true, decide_eq_true_eq] at h
  obtain ⟨h1, h2, h3, h4, h5, h6, h7, h8⟩ := h
  exact ⟨h1, h2, h3, h4, h5, h6, h7, h8⟩
/-- what an exception's name stands for -/
def cvOf (t : Tb) (K : PySem.W.Frag) (x : Str) : Value := if x ∈ t.cns then .ref (He.ga K x) else .type "ValueError"
def cvV (t : Tb) (K : PySem.W.Frag) (x : Str) : V := if x ∈ t.cns then .ref (He.ga K x) else .ty "ValueError"
def nmB (t : Tb) (K : PySem.W.Frag) (x : Str) : Bool := if x ∈ t.cns then He.eqO (PySem.W.nsIn K mainGlobals x) (some (some (.ref (He.ga K x)))) else decide (x = "ValueError") && He.eqO (PySem.W.nsIn K mainGlobals x) (some none)
def chkX (t : Tb) (K : PySem.W.Frag) : Bool :=
  (t.excs.all fun e => (He.Fa.exc e.1).ok K && (decide (t.cns.getD e.2 Str.empty = e.1) && He.eqO (PySem.W.nsIn K mainGlobals e.1) (some (some (.ref (He.ga K e.1)))))) &&
  (t.exms.all fun e => nmB t K e.1.2 && (decide (PySem.W.exmOne K (.ref (He.ga K (t.cns.getD e.1.1 Str.empty))) (cvOf t K e.1.2) = some e.2) && (decide (PySem.W.kitOne K (.ref (He.ga K (t.cns.getD e.1.1 Str.empty))) (cvOf t K e.1.2) = some e.2) && excCB K (He.ga K (t.cns.getD e.1.1 Str.empty)))))
theorem chkX_ok {t : Tb} {K : PySem.W.Frag} {h : Heap} {mg : Str → Option Value} (KX : K.In h) (hns : h.Ns mainGlobals mg) (c : chkX t K = true) : @ExOk t.tab K mg := by
  letI := t.tab
  obtain ⟨c1, c2⟩ := He.ba c
  refine ⟨fun x k hx => ?_, fun x hx => ?_⟩
  · have q := List.all_eq_true.mp c1 _ (mem_lk (show t.excs.lookup x = some k from hx))
    obtain ⟨q1, q⟩ := He.ba q
    obtain ⟨q2, q3⟩ := He.ba q
    have e := of_decide_eq_true q2
    obtain ⟨a1, a2, a3, a4⟩ := He.exc_ok q1
    show mg x = some (.ref (He.ga K (t.cns.getD k Str.empty))) ∧ PySem.W.excIn K (He.ga K (t.cns.getD k Str.empty)) He.veBase "ValueError.__new__" = true ∧ PySem.W.keepIn K (.ref (He.ga K (t.cns.getD k Str.empty))) = true ∧
      PySem.W.subIn K (.ref (He.ga K (t.cns.getD k Str.empty))) (.type "BaseException") = some true ∧ PySem.W.typeIn K (.ref (He.ga K (t.cns.getD k Str.empty))) = some (.type "type")
    rw [show t.cns.getD k Str.empty = x from e]
    exact ⟨PySem.W.mg_of KX hns (He.eqO_ok q3), a1, a2, a3, a4⟩
  · have hx' : (t.exms.any fun e => decide (e.1.2 = x)) = true := hx
    obtain ⟨e, he, ex⟩ := List.any_eq_true.mp hx'
    have ex := of_decide_eq_true ex
    obtain ⟨q1, _⟩ := He.ba (List.all_eq_true.mp c2 _ he)
    rw [ex] at q1
    refine ⟨cvV t K x, cvOf t K x, ?_, ?_, ?_, fun k b hk => ?_⟩
    · unfold nmB at q1
      unfold cvOf
      by_cases hm : x ∈ t.cns
      · rw [if_pos hm] at q1 ⊢
        exact .inl (PySem.W.mg_of KX hns (He.eqO_ok q1))
      · rw [if_neg hm] at q1 ⊢
        obtain ⟨a1, a2⟩ := He.ba q1
        have a1 := of_decide_eq_true a1
        exact .inr ⟨PySem.W.mg_none_of KX hns (He.eqO_ok a2), by rw [a1]; decide +kernel, by rw [a1]; decide⟩
    · unfold cvV cvOf
      split <;> rfl
    · unfold cvV cvOf
      split
      · exact fun u hu => hu
      · exact fun u hu => hu
    · have q := List.all_eq_true.mp c2 _ (mem_lk (show t.exms.lookup (k, x) = some b from hk))
      obtain ⟨_, q⟩ := He.ba q
      obtain ⟨q2, q⟩ := He.ba q
      obtain ⟨q3, q4⟩ := He.ba q
      exact ⟨of_decide_eq_true q2, of_decide_eq_true q3, excCB_ok q4⟩
def chkY (t : Tb) (ds : List DY) (K : PySem.W.Frag) : Bool :=
  (t.calls.all fun e => match ds[e.2.1]? with
    | some d => He.eqO (PySem.W.nsIn K mainGlobals e.1.1) (some (some (.ref (He.fAd K d.at_))))
    | none => false) &&
  (((t.cns.take t.ncl).all fun c => (He.Fa.cls c).ok K && He.eqO (PySem.W.nsIn K mainGlobals c) (some (some (.ref (He.ga K c))))) &&
  ((t.atts.all fun a => (He.Fa.noat (t.cns.getD a.1 Str.empty) a.2).ok K && decide (a.1 < t.ncl)) &&
  ((t.meths.all fun e => match ds[e.2.1]? with
    | some d => decide (d.at_ = (t.cns.getD e.1.1 Str.empty, some e.1.2.1)) && ((He.Fa.meth (t.cns.getD e.1.1 Str.empty) e.1.2.1).ok K && decide (e.1.1 < t.ncl))
    | none => false) &&
  ((t.makes.all fun e => match ds[e.2.2.1]? with
    | some d => decide (e.1.1 = t.cns.getD e.2.1 Str.empty) && (decide (d.at_ = (e.1.1, some ("__init__" : Str))) && ((He.Fa.mkr e.1.1).ok K && decide (e.2.1 < t.ncl)))
    | none => false) &&
  ((t.globs.all fun e => (He.Fa.int e.1 e.2).ok K) &&
  ((t.txts.all fun e => (He.Fa.str e.1 e.2).ok K) &&
  (chkX t K && (decide (t.ncl ≤ t.cns.length) && blts.all fun x => (He.Fa.free x).ok K))))))))
def obsY (t : Tb) (ds : List DY) (K : PySem.W.Frag) : He.AlD := (chkY t ds K && ds.all fun d => d.defD.ok K, ds.map fun d => He.fnW K d.at_)
def valY (ds : List DY) : He.AlD := (true, ds.map fun d => d.defD.val)
def obsYG (n : Nat) (t : Tb) (ds : List DY) (g : Addr → Option Obj) : He.AlD := obsY t ds (He.frG g (He.asD g n))
def hookY (n : Nat) (t : Tb) (ds : List DY) : PySem.W.Hook where
  α := He.AlD
  obs := fun s => obsYG n t ds s.heap.get?
  val := fun _ => valY ds
  says := fun _ h => ∃ K : PySem.W.Frag, K.In h ∧ obsY t ds K = valY ds
  of := fun _ _ e => ⟨_, He.frG_in, e⟩
  keeps := fun _ _ _ ⟨K, hK, c⟩ k => ⟨K, PySem.W.Frag.In.keeps hK k, c⟩
theorem obsYG_eq {n : Nat} {t : Tb} {ds : List DY} {g : Addr → Option Obj} {s : Shared} (h : ∀ a, g a = s.heap.get? a) : obsYG n t ds g = (hookY n t ds).obs s := by
  have e : g = s.heap.get? := funext h
  rw [e] <;> rfl
theorem says_def {t : Tb} {ds : List DY} {K : PySem.W.Frag} (c : obsY t ds K = valY ds) {i : Nat} {d : DY} (h : ds[i]? = some d) : ∃ fd, FunD K d.name d.qual (defArgs d.st) (defBody d.st) (defScope d.st) (d.defD.dvs K) (d.defD.kws K) (He.fAd K d.at_) fd := by
  have c2 := (He.ba (congrArg (fun z : He.AlD => z.1) c : (chkY t ds K && ds.all fun d => d.defD.ok K) = true)).2
  have e : ds.map (fun d => He.fnW K d.at_) = ds.map fun d => d.defD.val := congrArg (fun z : He.AlD => z.2) c
  have e2 : (ds.map (fun d => He.fnW K d.at_))[i]? = (ds.map fun d => d.defD.val)[i]? := by rw [e]
  rw [List.getElem?_map, List.getElem?_map, h] at e2
  exact He.DefD.funD (d := d.defD) (Option.some.inj e2) (List.all_eq_true.mp c2 d (List.mem_of_getElem? h))
theorem says_call {t : Tb} {ds : List DY} {K : PySem.W.Frag} (c : obsY t ds K = valY ds) {e : Ky × Nat × List D} (he : e ∈ t.calls) {d : DY} (hd : ds[e.2.1]? = some d) : PySem.W.nsIn K mainGlobals e.1.1 = some (some (.ref (He.fAd K d.at_))) := by
  have c0 := (He.ba (congrArg (fun z : He.AlD => z.1) c : (chkY t ds K && ds.all fun d => d.defD.ok K) = true)).1
  have q := List.all_eq_true.mp (He.ba c0).1 _ he
  simp only [hd] at q
  exact He.eqO_ok q
/-- the values of one entry: all parameters by place, or as shown apart -/
def plainE (ds : List DY) (na : Nat) (ks : List Str) (i : Nat) (dv : List D) : Bool := match ds[i]? with
  | some d => decide (d.np = na) && (ks.isEmpty && (dv.isEmpty && (d.dfl.isEmpty && d.kwd.isEmpty)))
  | none => false
def plainT_ (t : Tb) (ds : List DY) : Bool := (t.calls.all fun e => plainE ds e.1.2.1 e.1.2.2 e.2.1 e.2.2) && ((t.meths.all fun e => plainE ds (e.1.2.2.1 + 1) e.1.2.2.2 e.2.1 e.2.2) && (t.makes.all fun e => plainE ds (e.1.2.1 + 1) e.1.2.2 e.2.2.1 e.2.2.2))
section
variable {t : Tb} {ds : List DY} {P : Program} {w : World} {K : PySem.W.Frag} {mg : Str → Option Value} {base : Heap}
theorem plain_bd (G : ∀ d ∈ ds, @DY.Good t.tab d) {na : Nat} {ks : List Str} {i : Nat} {dv : List D} (h : plainE ds na ks i dv = true) {d : DY} (hd : ds[i]? = some d) {fd : FuncData} (F : FunD K d.name d.qual (defArgs d.st) (defBody d.st) (defScope d.st) (d.defD.dvs K) (d.defD.kws K) (He.fAd K d.at_) fd) :
    ∀ H, ∃ dvs, RDs K H dv dvs ∧ BdOk K fd d.ps na ks dvs := by
  letI := t.tab
  unfold plainE at h
  rw [hd] at h
  obtain ⟨h1, h⟩ := andB h
  obtain ⟨h2, h⟩ := andB h
  obtain ⟨h3, h⟩ := andB h
  obtain ⟨h4, h5⟩ := andB h
  have e1 := of_decide_eq_true h1
  have e2 : ks = [] := List.isEmpty_iff.mp h2
  have e3 : dv = [] := List.isEmpty_iff.mp h3
  have e4 : d.defD.dvs K = [] := by unfold He.DefD.dvs DY.defD; rw [show d.dfl = [] from List.isEmpty_iff.mp h4]; rfl
  subst e2 e3
  rw [e4] at F
  have g := G d (List.mem_of_getElem? hd)
  have := bd_plain (ps := d.ps) F g.bp
  rw [g.len, e1] at this
  exact this
theorem lvY (G : ∀ d ∈ ds, @DY.Good t.tab d) (KX : K.In base) (hns : base.Ns mainGlobals mg) (c : obsY t ds K = valY ds) (pl : plainT_ t ds = true) : ∀ n, @Lv t.tab P w K mg base n (WW ds n) := by
  letI := t.tab
  obtain ⟨p1, pl⟩ := andB pl
  obtain ⟨p2, p3⟩ := andB pl
  have c0 := (He.ba (congrArg (fun z : He.AlD => z.1) c : (chkY t ds K && ds.all fun d => d.defD.ok K) = true)).1
  obtain ⟨c1, c0⟩ := andB c0
  obtain ⟨c2, c0⟩ := andB c0
  obtain ⟨c3, c0⟩ := andB c0
  obtain ⟨c4, c0⟩ := andB c0
  obtain ⟨c5, c0⟩ := andB c0
  obtain ⟨c6, c0⟩ := andB c0
  obtain ⟨c7, c0⟩ := andB c0
  obtain ⟨cX, c0⟩ := andB c0
  obtain ⟨cL, c8⟩ := andB c0
  have cL := of_decide_eq_true cL
  have clsI : ∀ i, i < t.ncl → Cls K (He.ga K (t.cns.getD i Str.empty)) ∧ mg (t.cns.getD i Str.empty) = some (.ref (He.ga K (t.cns.getD i Str.empty))) := fun i hi => by
    have hm : t.cns.getD i Str.empty ∈ t.cns.take t.ncl := by
      rw [List.getD_eq_getElem?_getD, List.getElem?_eq_getElem (by omega)]
      exact List.mem_take_iff_getElem.mpr ⟨i, by omega, rfl⟩
    obtain ⟨q1, q2⟩ := andB (List.all_eq_true.mp c2 _ hm)
    exact ⟨He.cls_ok q1, PySem.W.mg_of KX hns (He.eqO_ok q2)⟩
  -- from the defs at level n to the tables
  have step : ∀ n, (∀ i d, ds[i]? = some d → ∀ fd, FunD K d.name d.qual (defArgs d.st) (defBody d.st) (defScope d.st) (d.defD.dvs K) (d.defD.kws K) (He.fAd K d.at_) fd → FnG P w K mg base n (He.fAd K d.at_) fd d.ps (LS K (WW ds n i))) → Lv P w K mg base n (WW ds n) := fun n hF => by
    refine ⟨fun cn f h => ?_, fun cn m na ks i dv h => ?_, fun x na ks cn i dv h => ?_, fun x na ks i dv h => ?_, fun x d h => ?_, fun x h => ?_, chkX_ok KX hns cX⟩
    · obtain ⟨q1, q2⟩ := andB (List.all_eq_true.mp c3 _ (of_decide_eq_true h))
      exact ⟨(clsI cn (of_decide_eq_true q2)).1, He.noat_ok q1⟩
    · have h : t.meths.lookup (cn, m, na, ks) = some (i, dv) := h
      have hm := mem_lk h
      have q := List.all_eq_true.mp c4 _ hm
      cases hd : ds[i]? with
      | none => simp only [hd] at q; cases q
      | some d =>
        simp only [hd] at q
        obtain ⟨q1, q⟩ := andB q
        obtain ⟨q2, q3⟩ := andB q
        have e1 := of_decide_eq_true q1
        obtain ⟨fd, F⟩ := says_def c hd
        have fa : He.fAd K d.at_ = He.ma K (He.ga K (t.cns.getD cn Str.empty)) m := by rw [e1]; rfl
        exact ⟨(clsI cn (of_decide_eq_true q3)).1, _, fd, d.ps, by rw [fa]; exact He.meth_ok q2, hF i d hd fd F, plain_bd G (List.all_eq_true.mp p2 _ hm) hd F⟩
    · have h : t.makes.lookup (x, na, ks) = some (cn, i, dv) := h
      have hm := mem_lk h
      have q := List.all_eq_true.mp c5 _ hm
      cases hd : ds[i]? with
      | none => simp only [hd] at q; cases q
      | some d =>
        simp only [hd] at q
        obtain ⟨q0, q⟩ := andB q
        obtain ⟨q1, q⟩ := andB q
        obtain ⟨q2, q3⟩ := andB q
        have e0 : x = t.cns.getD cn Str.empty := of_decide_eq_true q0
        have e1 := of_decide_eq_true q1
        obtain ⟨fd, F⟩ := says_def c hd
        have fa : He.fAd K d.at_ = He.ma K (He.ga K (t.cns.getD cn Str.empty)) "__init__" := by rw [e1, ← e0]; rfl
        refine ⟨by rw [e0]; exact (clsI cn (of_decide_eq_true q3)).2, _, fd, d.ps, ?_, hF i d hd fd F, plain_bd G (List.all_eq_true.mp p3 _ hm) hd F⟩
        rw [fa]
        have q2' : (He.Fa.mkr (t.cns.getD cn Str.empty)).ok K = true := by rw [← e0]; exact q2
        exact He.mkr_ok q2'
    · have h : t.calls.lookup (x, na, ks) = some (i, dv) := h
      have hm := mem_lk h
      have q := List.all_eq_true.mp c1 _ hm
      cases hd : ds[i]? with
      | none => simp only [hd] at q; cases q
      | some d =>
        simp only [hd] at q
        obtain ⟨fd, F⟩ := says_def c hd
        exact ⟨_, fd, d.ps, PySem.W.mg_of KX hns (He.eqO_ok q), F.kp, hF i d hd fd F, plain_bd G (List.all_eq_true.mp p1 _ hm) hd F⟩
    · show ∃ v u, _
      have h' : (match t.globs.lookup x with
        | some i => some (D.int i)
        | none => (t.txts.lookup x).map .str) = some d := h
      split at h'
      · rename_i i e
        cases h'
        obtain ⟨tk, e2⟩ := He.int_ok KX hns (List.all_eq_true.mp c6 _ (mem_lk e))
        exact ⟨.int i, _, e2, ⟨tk, rfl⟩, fun _ => .int i⟩
      · obtain ⟨z, e, h'⟩ := mS h'
        subst h'
        obtain ⟨tk, e2⟩ := He.str_ok KX hns (List.all_eq_true.mp c7 _ (mem_lk e))
        exact ⟨.str z, _, e2, ⟨tk, rfl⟩, fun _ => .str z⟩
    · exact He.free_ok KX hns (List.all_eq_true.mp c8 x h)
  intro n
  induction n with
  | zero => exact step 0 fun i d hd fd F => fnG_zero
  | succ n ih =>
    refine step (n + 1) fun i d hd fd F => ?_
    have g := G d (List.mem_of_getElem? hd)
    have e : WW ds (n + 1) i = runD d.ps.length d.N.length (d.b (WW ds n)) := by
      show prmOf ds (WW ds n) i = _
      unfold prmOf
      rw [hd, g.len]
    rw [e]
    exact fnG_of F g.sc (g.bd _) ih
/-- the promise of a def at a level -/
theorem fnY (G : ∀ d ∈ ds, @DY.Good t.tab d) (KX : K.In base) (hns : base.Ns mainGlobals mg) (c : obsY t ds K = valY ds) (pl : plainT_ t ds = true) (n : Nat) {i : Nat} {d : DY} (hd : ds[i]? = some d) {fd : FuncData} (F : FunD K d.name d.qual (defArgs d.st) (defBody d.st) (defScope d.st) (d.defD.dvs K) (d.defD.kws K) (He.fAd K d.at_) fd) :
    @FnG P w K mg base (n + 1) (He.fAd K d.at_) fd d.ps (@LS t.tab K (WW ds (n + 1) i)) := by
  letI := t.tab
  have g := G d (List.mem_of_getElem? hd)
  have e : WW ds (n + 1) i = runD d.ps.length d.N.length (d.b (WW ds n)) := by
    show prmOf ds (WW ds n) i = _
    unfold prmOf
    rw [hd, g.len]
  rw [e]
  exact fnG_of F g.sc (g.bd _) (lvY G KX hns c pl n)
end
end Y

/-! Y18: rules for reasoning over readings. -/
namespace Y
open PySem PySem.Spec PyProof.Rows L2
theorem isi_NoneType_bool : isiB "NoneType" "bool" = false := by decide +kernel
theorem isi_NoneType_int : isiB "NoneType" "int" = false := by decide +kernel
theorem isi_NoneType_str : isiB "NoneType" "str" = false := by decide +kernel
theorem isi_NoneType_tuple : isiB "NoneType" "tuple" = false := by decide +kernel
theorem isi_NoneType_list : isiB "NoneType" "list" = false := by decide +kernel
theorem isi_bool_bool : isiB "bool" "bool" = true := by decide +kernel
theorem isi_bool_int : isiB "bool" "int" = true := by decide +kernel
theorem isi_bool_str : isiB "bool" "str" = false := by decide +kernel
theorem isi_bool_tuple : isiB "bool" "tuple" = false := by decide +kernel
theorem isi_bool_list : isiB "bool" "list" = false := by decide +kernel
theorem isi_int_bool : isiB "int" "bool" = false := by decide +kernel
theorem isi_int_int : isiB "int" "int" = true := by decide +kernel
theorem isi_int_str : isiB "int" "str" = false := by decide +kernel
theorem isi_int_tuple : isiB "int" "tuple" = false := by decide +kernel
theorem isi_int_list : isiB "int" "list" = false := by decide +kernel
theorem isi_str_bool : isiB "str" "bool" = false := by decide +kernel
theorem isi_str_int : isiB "str" "int" = false := by decide +kernel
theorem isi_str_str : isiB "str" "str" = true := by decide +kernel
theorem isi_str_tuple : isiB "str" "tuple" = false := by decide +kernel
theorem isi_str_list : isiB "str" "list" = false := by decide +kernel
theorem isi_tuple_bool : isiB "tuple" "bool" = false := by decide +kernel
theorem isi_tuple_int : isiB "tuple" "int" = false := by decide +kernel
theorem isi_tuple_str : isiB "tuple" "str" = false := by decide +kernel
theorem isi_tuple_tuple : isiB "tuple" "tuple" = true := by decide +kernel
theorem isi_tuple_list : isiB "tuple" "list" = false := by decide +kernel
theorem isi_list_bool : isiB "list" "bool" = false := by decide +kernel
theorem isi_list_int : isiB "list" "int" = false := by decide +kernel
theorem isi_list_str : isiB "list" "str" = false := by decide +kernel
theorem isi_list_tuple : isiB "list" "tuple" = false := by decide +kernel
theorem isi_list_list : isiB "list" "list" = true := by decide +kernel
theorem seq_at {t u : TSD} {D : En} {σ : St} {G : Hd} (P : St → Hd → Prop) (hu : ∀ σ' G', P σ' G' → u D σ' G') (ht : ∀ nx, (∀ σ' G', P σ' G' → nx σ' G') → t { D with nx := nx } σ G) : sSeq t u D σ G := ht _ hu
theorem seq_go {t u : TSD} {D : En} {σ : St} {G : Hd} (h : ∀ nx, nx = u D → t { D with nx := nx } σ G) : sSeq t u D σ G := h _ rfl
theorem pk_dec {p : Prop} [Decidable p] {A B : Prop} (h1 : p → A) (h2 : ¬ p → B) : pick (decide p) A B := by
  by_cases h : p
  · rw [decide_eq_true h]; exact h1 h
  · rw [decide_eq_false h]; exact h2 h
theorem pk_not {b : Bool} {A B : Prop} (h : pick b B A) : pick (!b) A B := by
  cases b <;> exact h
theorem pk_of {b : Bool} {A B : Prop} (h1 : b = true → A) (h2 : b = false → B) : pick b A B := by
  cases b with
  | true => exact h1 rfl
  | false => exact h2 rfl
theorem atI_k {α : Type} {xs : List α} {k : Nat} {d : α} (h : xs[k]? = some d) : atI xs (k : Int) = some d := by
  have hl := (List.getElem?_eq_some_iff.mp h).1
  unfold atI ixN
  rw [if_pos (by omega), if_pos (by omega)]
  simpa using h
theorem ixN_k {n k : Nat} (h : k < n) : ixN n (k : Int) = some k := by
  unfold ixN
  rw [if_pos (by omega), if_pos (by omega)]
  simp
theorem atI0 {α : Type} {a : α} {l : List α} : atI (a :: l) 0 = some a := atI_k (k := 0) rfl
theorem atI1 {α : Type} {a b : α} {l : List α} : atI (a :: b :: l) 1 = some b := atI_k (k := 1) rfl
theorem atI2 {α : Type} {a b c : α} {l : List α} : atI (a :: b :: c :: l) 2 = some c := atI_k (k := 2) rfl
theorem ixN0 {α : Type} {a : α} {l : List α} : ixN (a :: l).length 0 = some 0 := ixN_k (k := 0) (by simp)
theorem ixN1 {α : Type} {a b : α} {l : List α} : ixN (a :: b :: l).length 1 = some 1 := ixN_k (k := 1) (by simp)
theorem ixN2 {α : Type} {a b c : α} {l : List α} : ixN (a :: b :: c :: l).length 2 = some 2 := ixN_k (k := 2) (by simp)
theorem atI_neg1 {α : Type} {xs : List α} {d : α} (h : xs[xs.length - 1]? = some d) : atI xs (-1) = some d := by
  have hl := (List.getElem?_eq_some_iff.mp h).1
  unfold atI ixN
  rw [if_neg (by omega), if_pos (by omega)]
  show xs[_]? = _
  rw [show ((-1 : Int) + (xs.length : Int)).toNat = xs.length - 1 by omega]
  exact h
/-- a loop by what holds behind so many items -/
theorem for_inv {ok : Hd → Prop} {one : D → St → Hd → (St → Hd → Prop) → Prop} {nx : St → Hd → Prop} (P : List D → St → Hd → Prop) (hok : ∀ r σ G, P r σ G → ok G) (hend : ∀ σ G, P [] σ G → nx σ G)
    (hstep : ∀ d r σ G k, P (d :: r) σ G → (∀ σ' G', P r σ' G' → k σ' G') → one d σ G k) : ∀ ds σ G, P ds σ G → forLoop ok one nx ds σ G
  | [], σ, G, h => ⟨hok _ _ _ h, hend σ G h⟩
  | d :: r, σ, G, h => ⟨hok _ _ _ h, hstep d r σ G _ h fun σ' G' h' => for_inv P hok hend hstep r σ' G' h'⟩
theorem lc_inv {ok : Hd → Prop} {one : D → Hd → (Hd → Prop) → Prop} {fin : Hd → Prop} (P : List D → Hd → Prop) (hok : ∀ r G, P r G → ok G) (hend : ∀ G, P [] G → fin G)
    (hstep : ∀ d r G k, P (d :: r) G → (∀ G', P r G' → k G') → one d G k) : ∀ ds G, P ds G → lcLoop ok one fin ds G
  | [], G, h => ⟨hok _ _ h, hend G h⟩
  | d :: r, G, h => ⟨hok _ _ h, hstep d r G _ h fun G' h' => lc_inv P hok hend hstep r G' h'⟩
theorem ints_cons (lo : Int) (n : Nat) : intsD lo (n + 1) = .int lo :: intsD (lo + 1) n := by
  unfold intsD
  rw [List.range_succ_eq_map, List.map_cons, List.map_map]
  congr 1
  · simp
  · apply List.map_congr_left
    intro a _
    simp only [Function.comp]
    congr 1
    push_cast
    omega
theorem for_rng_go {one : D → St → Hd → (St → Hd → Prop) → Prop} {nx : St → Hd → Prop} (P : Int → St → Hd → Prop) {hi : Int} (hend : ∀ σ G, P hi σ G → nx σ G)
    (hstep : ∀ j σ G k, j < hi → P j σ G → (∀ σ' G', P (j + 1) σ' G' → k σ' G') → one (.int j) σ G k) : ∀ (n : Nat) (lo : Int) σ G, lo + n = hi → P lo σ G → forLoop (fun _ => True) one nx (intsD lo n) σ G
  | 0, lo, σ, G, e, h => ⟨trivial, hend σ G (by rw [← e]; simpa using h)⟩
  | n + 1, lo, σ, G, e, h => by
    rw [ints_cons]
    exact ⟨trivial, hstep lo σ G _ (by omega) h fun σ' G' h' => for_rng_go P hend hstep n (lo + 1) σ' G' (by omega) h'⟩
/-- for j in range(lo, hi) -/
theorem for_rng {one : D → St → Hd → (St → Hd → Prop) → Prop} {nx : St → Hd → Prop} (P : Int → St → Hd → Prop) {lo hi : Int} {n : Nat} {σ : St} {G : Hd} (hn : lo + n = hi) (h0 : P lo σ G) (hend : ∀ σ G, P hi σ G → nx σ G)
    (hstep : ∀ j σ G k, lo ≤ j → j < hi → P j σ G → (∀ σ' G', P (j + 1) σ' G' → k σ' G') → one (.int j) σ G k) : forLoop (fun _ => True) one nx (intsD lo n) σ G :=
  for_rng_go (fun j σ G => lo ≤ j ∧ P j σ G) (hi := hi) (fun σ G h => hend σ G h.2) (fun j σ G k h1 h2 h3 => hstep j σ G k h2.1 h1 h2.2 fun σ' G' h' => h3 σ' G' ⟨by omega, h'⟩) n lo σ G hn ⟨Int.le_refl _, h0⟩
theorem lc_rng_go {one : D → Hd → (Hd → Prop) → Prop} {fin : Hd → Prop} (P : Int → Hd → Prop) {hi : Int} (hend : ∀ G, P hi G → fin G)
    (hstep : ∀ j G k, j < hi → P j G → (∀ G', P (j + 1) G' → k G') → one (.int j) G k) : ∀ (n : Nat) (lo : Int) G, lo + n = hi → P lo G → lcLoop (fun _ => True) one fin (intsD lo n) G
  | 0, lo, G, e, h => ⟨trivial, hend G (by rw [← e]; simpa using h)⟩
  | n + 1, lo, G, e, h => by
    rw [ints_cons]
    exact ⟨trivial, hstep lo G _ (by omega) h fun G' h' => lc_rng_go P hend hstep n (lo + 1) G' (by omega) h'⟩
theorem lc_rng {one : D → Hd → (Hd → Prop) → Prop} {fin : Hd → Prop} (P : Int → Hd → Prop) {lo hi : Int} {n : Nat} {G : Hd} (hn : lo + n = hi) (h0 : P lo G) (hend : ∀ G, P hi G → fin G)
    (hstep : ∀ j G k, lo ≤ j → j < hi → P j G → (∀ G', P (j + 1) G' → k G') → one (.int j) G k) : lcLoop (fun _ => True) one fin (intsD lo n) G :=
  lc_rng_go (fun j G => lo ≤ j ∧ P j G) (hi := hi) (fun G h => hend G h.2) (fun j G k h1 h2 h3 => hstep j G k h2.1 h1 h2.2 fun G' h' => h3 G' ⟨by omega, h'⟩) n lo G hn ⟨Int.le_refl _, h0⟩
/-- over data -/
theorem for_fix_go {one : D → St → Hd → (St → Hd → Prop) → Prop} {nx : St → Hd → Prop} (P : Nat → St → Hd → Prop) (xs : List D) (hend : ∀ σ G, P xs.length σ G → nx σ G)
    (hstep : ∀ (j : Nat) d σ G k, xs[j]? = some d → P j σ G → (∀ σ' G', P (j + 1) σ' G' → k σ' G') → one d σ G k) : ∀ (r : List D) (j : Nat) σ G, xs.drop j = r → j ≤ xs.length → P j σ G → forLoop (fun _ => True) one nx r σ G
  | [], j, σ, G, e, hj, h => ⟨trivial, hend σ G (by
      have : xs.length ≤ j := List.drop_eq_nil_iff.mp e
      rw [show xs.length = j by omega]; exact h)⟩
  | d :: r, j, σ, G, e, hj, h => by
    have h1 : xs[j]? = some d := by rw [← List.head?_drop, e]; rfl
    have h2 := (List.getElem?_eq_some_iff.mp h1).1
    have h3 : xs.drop (j + 1) = r := by rw [← List.tail_drop, e]; rfl
    exact ⟨trivial, hstep j d σ G _ h1 h fun σ' G' h' => for_fix_go P xs hend hstep r (j + 1) σ' G' h3 h2 h'⟩
theorem for_fix {one : D → St → Hd → (St → Hd → Prop) → Prop} {nx : St → Hd → Prop} (P : Nat → St → Hd → Prop) {xs : List D} {σ : St} {G : Hd} (h0 : P 0 σ G) (hend : ∀ σ G, P xs.length σ G → nx σ G)
    (hstep : ∀ (j : Nat) d σ G k, xs[j]? = some d → P j σ G → (∀ σ' G', P (j + 1) σ' G' → k σ' G') → one d σ G k) : forLoop (fun _ => True) one nx xs σ G :=
  for_fix_go P xs hend hstep xs 0 σ G rfl (Nat.zero_le _) h0
theorem lc_fix_go {one : D → Hd → (Hd → Prop) → Prop} {fin : Hd → Prop} (P : Nat → Hd → Prop) (xs : List D) (hend : ∀ G, P xs.length G → fin G)
    (hstep : ∀ (j : Nat) d G k, xs[j]? = some d → P j G → (∀ G', P (j + 1) G' → k G') → one d G k) : ∀ (r : List D) (j : Nat) G, xs.drop j = r → j ≤ xs.length → P j G → lcLoop (fun _ => True) one fin r G
  | [], j, G, e, hj, h => ⟨trivial, hend G (by
      have : xs.length ≤ j := List.drop_eq_nil_iff.mp e
      rw [show xs.length = j by omega]; exact h)⟩
  | d :: r, j, G, e, hj, h => by
    have h1 : xs[j]? = some d := by rw [← List.head?_drop, e]; rfl
    have h2 := (List.getElem?_eq_some_iff.mp h1).1
    have h3 : xs.drop (j + 1) = r := by rw [← List.tail_drop, e]; rfl
    exact ⟨trivial, hstep j d G _ h1 h fun G' h' => lc_fix_go P xs hend hstep r (j + 1) G' h3 h2 h'⟩
theorem lc_fix {one : D → Hd → (Hd → Prop) → Prop} {fin : Hd → Prop} (P : Nat → Hd → Prop) {xs : List D} {G : Hd} (h0 : P 0 G) (hend : ∀ G, P xs.length G → fin G)
    (hstep : ∀ (j : Nat) d G k, xs[j]? = some d → P j G → (∀ G', P (j + 1) G' → k G') → one d G k) : lcLoop (fun _ => True) one fin xs G :=
  lc_fix_go P xs hend hstep xs 0 G rfl (Nat.zero_le _) h0
/-- [g for x in xs]: what holds stays -/
theorem lc_map {α : Type} {one : D → Hd → (Hd → Prop) → Prop} {fin : Hd → Prop} {p : Addr} {xs : List α} {f g : α → D} {G : Hd} (I : Hd → Prop) (hI : ∀ G ys, I G → I (up G p (.lst ys))) (h0 : I G) (hz : xs.length ≤ sizeLine)
    (hstep : ∀ x G' acc k, x ∈ xs → I G' → G' p = some (.lst acc) → acc.length < sizeLine → (∀ G'', I G'' → k (up G'' p (.lst (acc ++ [g x])))) → one (f x) G' k)
    (hfin : ∀ G', I G' → G' p = some (.lst (xs.map g)) → fin G') : lcLoop (fun _ => True) one fin (xs.map f) (up G p (.lst [])) := by
  refine lc_fix (fun j G' => I G' ∧ G' p = some (.lst ((xs.take j).map g))) ⟨hI _ _ h0, up_same⟩ (fun G' ⟨h1, h2⟩ => hfin G' h1 ?_) ?_
  · rw [List.length_map, List.take_length] at h2
    exact h2
  · rintro j d G' k hd ⟨h1, h2⟩ hk
    rw [List.getElem?_map] at hd
    cases e : xs[j]? with
    | none => rw [e] at hd; cases hd
    | some x =>
      rw [e] at hd
      cases hd
      have hj := (List.getElem?_eq_some_iff.mp e).1
      refine hstep x G' _ k (List.mem_of_getElem? e) h1 h2 (by simp; omega) fun G'' hG => hk _ ⟨hI _ _ hG, ?_⟩
      rw [up_same, List.take_add_one, e]
      simp
/-- over a list that stands in the heap -/
theorem for_live_go {a : Addr} {xs : List D} {one : D → St → Hd → (St → Hd → Prop) → Prop} {nx : St → Hd → Prop} (P : Nat → St → Hd → Prop) (hok : ∀ j σ G, P j σ G → G a = some (.lst xs)) (hend : ∀ σ G, P xs.length σ G → nx σ G)
    (hstep : ∀ (j : Nat) d σ G k, xs[j]? = some d → P j σ G → (∀ σ' G', P (j + 1) σ' G' → k σ' G') → one d σ G k) : ∀ (r : List D) (j : Nat) σ G, xs.drop j = r → j ≤ xs.length → P j σ G → forLoop (fun G => G a = some (.lst xs)) one nx r σ G
  | [], j, σ, G, e, hj, h => ⟨hok _ _ _ h, hend σ G (by
      have : xs.length ≤ j := List.drop_eq_nil_iff.mp e
      rw [show xs.length = j by omega]; exact h)⟩
  | d :: r, j, σ, G, e, hj, h => by
    have h1 : xs[j]? = some d := by rw [← List.head?_drop, e]; rfl
    have h2 := (List.getElem?_eq_some_iff.mp h1).1
    have h3 : xs.drop (j + 1) = r := by rw [← List.tail_drop, e]; rfl
    exact ⟨hok _ _ _ h, hstep j d σ G _ h1 h fun σ' G' h' => for_live_go P hok hend hstep r (j + 1) σ' G' h3 h2 h'⟩
theorem for_live {a : Addr} {xs : List D} {one : D → St → Hd → (St → Hd → Prop) → Prop} {nx : St → Hd → Prop} (P : Nat → St → Hd → Prop) {σ : St} {G : Hd} (h0 : P 0 σ G) (hok : ∀ j σ G, P j σ G → G a = some (.lst xs)) (hend : ∀ σ G, P xs.length σ G → nx σ G)
    (hstep : ∀ (j : Nat) d σ G k, xs[j]? = some d → P j σ G → (∀ σ' G', P (j + 1) σ' G' → k σ' G') → one d σ G k) : forLoop (fun G => G a = some (.lst xs)) one nx xs σ G :=
  for_live_go P hok hend hstep xs 0 σ G rfl (Nat.zero_le _) h0
theorem cmul_l {i j : Int} (h1 : -(2 ^ 64) < i) (h2 : i < 2 ^ 64) : CMul i j := .inl ⟨h1, h2⟩
theorem cmul_r {i j : Int} (h1 : -(2 ^ 64) < j) (h2 : j < 2 ^ 64) : CMul i j := .inr ⟨h1, h2⟩
end Y

/-! Y19: texts as lists of signs. -/
namespace Y
open PySem PySem.Spec PyProof.Rows L2 SX
theorem take_sub (l : List Nat) (i j : Nat) : (l.drop (min i l.length)).take (min j l.length - min i l.length) = (l.drop i).take (j - i) := by
  by_cases h : i ≤ l.length
  · have e1 : min i l.length = i := Nat.min_eq_left h
    rw [e1]
    by_cases h2 : j ≤ l.length
    · have e2 : min j l.length = j := Nat.min_eq_left h2
      rw [e2]
    · have e2 : min j l.length = l.length := Nat.min_eq_right (by omega)
      rw [e2, List.take_of_length_le (by simp), List.take_of_length_le (by simp; omega)]
  · have e1 : min i l.length = l.length := Nat.min_eq_right (by omega)
    rw [e1, List.drop_of_length_le (Nat.le_refl _), List.drop_of_length_le (by omega)]
    simp
theorem cut_S {l : List Nat} {i j : Nat} : cutS (S l) (some (i : Int)) (some (j : Int)) = S ((l.drop i).take (j - i)) := by
  unfold cutS
  rw [HT.sIx_nat, HT.sIx_nat, S_len]
  show S ((l.drop (min i l.length)).take (min j l.length - min i l.length)) = S _
  rw [take_sub]
theorem cut_S' {l : List Nat} {i j : Int} {a b : Nat} (hi : i = a) (hj : j = b) : cutS (S l) (some i) (some j) = S ((l.drop a).take (b - a)) := by
  subst hi hj; exact cut_S
theorem cut_S0 {l : List Nat} {j : Int} {b : Nat} (hj : j = b) : cutS (S l) none (some j) = S (l.take b) := by
  subst hj
  unfold cutS
  rw [HT.sIx_nat, HT.sIx_none, S_len]
  show S ((l.drop 0).take (min b l.length - 0)) = S _
  have := take_sub l 0 b
  simp only [Nat.zero_min, Nat.sub_zero, List.drop_zero] at this
  rw [List.drop_zero, Nat.sub_zero, this]
theorem cut_Sn {l : List Nat} {i : Int} {a : Nat} (hi : i = a) : cutS (S l) (some i) none = S (l.drop a) := by
  subst hi
  unfold cutS
  rw [HT.sIx_nat, HT.sIx_none, S_len]
  show S ((l.drop (min a l.length)).take (l.length - min a l.length)) = S _
  have := take_sub l a l.length
  rw [Nat.min_self] at this
  rw [this, List.take_of_length_le (by simp)]
theorem at_S {l : List Nat} {i : Nat} {c : Nat} (h : l[i]? = some c) : atI (S l).cps.toList (i : Int) = some c := atI_k h
/-- a sign is a digit -/
def dig (c : Nat) : Bool := decide (48 ≤ c) && decide (c ≤ 57)
theorem digits_mem (c : Nat) : decide (c ∈ ("0123456789" : Str).cps.toList) = dig c := by
  have e : ("0123456789" : Str).cps.toList = [48, 49, 50, 51, 52, 53, 54, 55, 56, 57] := by decide +kernel
  rw [e]
  unfold dig
  rw [← Bool.decide_and]
  congr 1
  simp only [List.mem_cons, List.not_mem_nil, or_false, eq_iff_iff]
  omega
/-- so many digits lead -/
def digs (l : List Nat) : Nat := (l.takeWhile dig).length
theorem digs_app {a b : List Nat} (h : ∀ c ∈ a, dig c = true) (hb : ∀ c, b.head? = some c → dig c = false) : digs (a ++ b) = a.length := by
  unfold digs
  induction a with
  | nil =>
    cases b with
    | nil => rfl
    | cons c r => rw [List.nil_append, List.takeWhile_cons, hb c rfl]; rfl
  | cons c r ih =>
    rw [List.cons_append, List.takeWhile_cons, h c List.mem_cons_self]
    simp only [↓reduceIte, List.length_cons]
    rw [ih fun d hd => h d (List.mem_cons_of_mem _ hd)]
theorem dig_num {n c : Nat} (h : c ∈ TL.numL n) : dig c = true := by
  have := TL.numL_digits n c h
  simp [dig, this.1, this.2]
theorem num_head : ∀ {n : Nat}, n ≠ 0 → (TL.numL n).head? ≠ some 48 := by
  intro n
  induction n using Nat.strongRecOn with
  | _ n ih =>
    intro hn
    by_cases h : n < 10
    · rw [TL.numL_lt h]
      simp
      omega
    · rw [TL.numL_step (by omega)]
      have h2 := ih (n / 10) (by omega) (by omega)
      have h3 := TL.numL_ne (n / 10)
      cases e : TL.numL (n / 10) with
      | nil => exact absurd e h3
      | cons c r => rw [e] at h2; simpa using h2
end Y

namespace K89
open PySem PySem.Spec PyProof.Rows L2 Y
def prog : Program := PySem.Challenge.pw_firstway_k89_saved_words
def top (i : Nat) : Stmt := prog.main.body.getD i (.Pass ⟨0, 0, 0, 0⟩)
def mth (i j : Nat) : Stmt := match top i with
  | .ClassDef _ _ _ b _ _ _ _ _ _ _ => b.getD j (.Pass ⟨0, 0, 0, 0⟩)
  | s => s
def tb : Tb where
  cns := ["SavedReader", "FirstwayError", "CountError", "SavedTextError"]
  ncl := 1
  excs := [("SavedTextError", 3)]
  exms := [((3, "CountError"), false), ((3, "FirstwayError"), true), ((3, "SavedTextError"), true), ((3, "ValueError"), true)]
  atts := [(0, "text"), (0, "position")]
  calls := [(("law", 1, []), 0, []), (("_law_wrong", 2, []), 1, []), (("_law_refused", 3, []), 2, []), (("_law_same", 2, []), 4, []), (("_law_written", 1, []), 7, []), (("write_number", 1, []), 10, []), (("write_text", 1, []), 11, []), (("_law_digit", 3, []), 12, []), (("_law_word", 2, []), 13, []), (("_law_text", 3, []), 14, []), (("_law_row", 2, []), 16, [])]
  meths := [((0, "at_end", 0, []), 3, []), ((0, "take_text", 0, []), 5, []), ((0, "take_number", 0, []), 6, []), ((0, "take_head", 1, []), 8, []), ((0, "number_end", 0, []), 15, [])]
  makes := [(("SavedReader", 1, []), 0, 9, [])]
  globs := [("MOST_DIGITS", 9)]
  txts := [("DIGITS", "0123456789")]
local instance : Tab := tb.tab
/-- law -/
def b_law (Γ : Nat → SpD) : TSD := (sSeq (sAsg (tLstD (tConsD (tConD (.int 0)) (tConsD (tConD (.int 0)) tNilD))) (gNm 1)) (sSeq (sAsg (tCallD (Γ 14) [] 3 0 (tConsD (tVarD 0) (tConsD (tVarD 1) (tConsD (tConD (.int 6)) tNilD))) tNilD) (gNm 2)) (sSeq (sAsg (tLcD (tRng1D (tCallD (Γ 12) [] 3 0 (tConsD (tVarD 0) (tConsD (tVarD 1) (tConsD (tConD (.int 10)) tNilD))) tNilD)) (.nm 4) tYesD (tCallD (Γ 13) [] 2 0 (tConsD (tVarD 0) (tConsD (tVarD 1) tNilD)) tNilD) [4]) (gNm 3)) (sSeq (sAsg (tVarD 2) (gNm 5)) (sSeq (sFor (tWalkD (tVarD 3)) (gNm 6) (sSeq (sAsg (tIfD (tNotD (tTruD (tIsiD "str" (tVarD 6)))) (tCallD (Γ 10) [] 1 0 (tConsD (tVarD 6) tNilD) tNilD) (tCallD (Γ 11) [] 1 0 (tConsD (tVarD 6) tNilD) tNilD)) (gNm 7)) (sSeq (sIf (tNotD (tTruD (tCallD (Γ 4) [] 2 0 (tConsD (tVarD 7) (tConsD (tCallD (Γ 7) [] 1 0 (tConsD (tVarD 6) tNilD) tNilD) tNilD)) tNilD))) (sSeq (sRet (tConD (.bl false))) sNext) sNext) (sSeq (sAsg (tBin oAdd (tVarD 5) (tVarD 7)) (gNm 5)) sNext)))) (sSeq (sAsg (tCallD (spMake (Γ 9) 0) [] 1 0 (tConsD (tVarD 5) tNilD) tNilD) (gNm 8)) (sSeq (sIf (tOrD (tNotD (tTruD (tCallD (Γ 2) [] 3 0 (tConsD (tVarD 8) (tConsD (tConD (.int 2)) (tConsD (tBin oAdd (tVarD 5) (tConD (.str "a"))) tNilD))) tNilD))) (tNotD (tTruD (tCallD (Γ 2) [] 3 0 (tConsD (tVarD 8) (tConsD (tConD (.int 2)) (tConsD (tBin oAdd (tConD (.str "\t\n~")) (tVarD 5)) tNilD))) tNilD)))) (sSeq (sRet (tConD (.bl false))) sNext) sNext) (sSeq (sIf (tBoolD (tBin (oIs true) (tMethD Γ "take_head" 1 [] (tVarD 8) (tConsD (tVarD 2) tNilD) tNilD) (tConD .non))) (sSeq (sRet (tConD (.bl false))) sNext) sNext) (sSeq (sFor (tWalkD (tVarD 3)) (gNm 6) (sSeq (sIf (tOrD (tBoolD (tBin (oIs true) (tMethD Γ "at_end" 0 [] (tVarD 8) tNilD tNilD) (tConD (.bl false)))) (tNotD (tTruD (tCallD (Γ 2) [] 3 0 (tConsD (tVarD 8) (tConsD (tConD (.int 2)) (tConsD (tBin oAdd (tBin oAdd (tCallD (Γ 7) [] 1 0 (tConsD (tVarD 6) tNilD) tNilD) (tConD (.str "!"))) (tVarD 5)) tNilD))) tNilD)))) (sSeq (sRet (tConD (.bl false))) sNext) sNext) (sSeq (sIf (tTruD (tIsiD "str" (tVarD 6))) (sSeq (sIf (tNotD (tTruD (tCallD (Γ 4) [] 2 0 (tConsD (tMethD Γ "take_text" 0 [] (tVarD 8) tNilD tNilD) (tConsD (tVarD 6) tNilD)) tNilD))) (sSeq (sRet (tConD (.bl false))) sNext) sNext) sNext) (sSeq (sIf (tNotD (tTruD (tCallD (Γ 4) [] 2 0 (tConsD (tMethD Γ "take_number" 0 [] (tVarD 8) tNilD tNilD) (tConsD (tVarD 6) tNilD)) tNilD))) (sSeq (sRet (tConD (.bl false))) sNext) sNext) sNext)) sNext))) (sSeq (sIf (tOrD (tBoolD (tBin (oIs true) (tMethD Γ "at_end" 0 [] (tVarD 8) tNilD tNilD) (tConD (.bl true)))) (tOrD (tNotD (tTruD (tCallD (Γ 2) [] 3 0 (tConsD (tVarD 8) (tConsD (tConD (.int 0)) (tConsD (tConD (.str "")) tNilD))) tNilD))) (tNotD (tTruD (tCallD (Γ 2) [] 3 0 (tConsD (tVarD 8) (tConsD (tConD (.int 1)) (tConsD (tConD (.str "")) tNilD))) tNilD))))) (sSeq (sRet (tConD (.bl false))) sNext) sNext) (sSeq (sRet (tCallD (Γ 1) [] 2 0 (tConsD (tVarD 0) (tConsD (tVarD 1) tNilD)) tNilD)) sNext)))))))))))
def d_law : DY := { at_ := ("law", none), name := "law", qual := "law", st := (top 19), N := ["_law_script", "_law_state", "_law_head", "_law_words", "_law_k", "_law_text_here", "_law_word_here", "_law_told", "_law_reader"], np := 1, b := b_law }
theorem g_law : DY.Good d_law := ⟨⟨rfl, rfl, rfl, by decide +kernel, rfl, by decide +kernel, by decide +kernel⟩, rfl, fun _ => by kernel_rfl, fun _ _ _ _ _ _ us hl => match us, hl with | [_], _ => rfl⟩
/-- _law_wrong -/
def b__law_wrong (Γ : Nat → SpD) : TSD := (sSeq (sAsg (tLstD (tConsD (tConD (.str "")) (tConsD (tConD (.str ";")) (tConsD (tConD (.str "-1;")) (tConsD (tConD (.str "+1;")) (tConsD (tConD (.str "01;")) (tConsD (tConD (.str "00;")) (tConsD (tConD (.str "1000000000;")) (tConsD (tConD (.str "12")) (tConsD (tConD (.str "1 ;")) (tConsD (tConD (.str " 1;")) (tConsD (tConD (.str "a;")) (tConsD (tConD (.str "1:")) (tConsD (tBin oAdd (tBin oMul (tConD (.str "9")) (tConD (.int 40))) (tConD (.str ";"))) tNilD)))))))))))))) (gNm 2)) (sSeq (sFor (tWalkD (tVarD 2)) (gNm 3) (sSeq (sFor (tRng1D (tConD (.int 2))) (gNm 4) (sSeq (sAsg (tCallD (spMake (Γ 9) 0) [] 1 0 (tConsD (tBin oAdd (tConD (.str "x")) (tVarD 3)) tNilD) tNilD) (gNm 5)) (sSeq (sExp (tMethD Γ "take_head" 1 [] (tVarD 5) (tConsD (tConD (.str "x")) tNilD) tNilD)) (sSeq (sIf (tNotD (tTruD (tCallD (Γ 2) [] 3 0 (tConsD (tVarD 5) (tConsD (tVarD 4) (tConsD (tConD (.str "")) tNilD))) tNilD))) (sSeq (sRet (tConD (.bl false))) sNext) sNext) (sSeq (sIf (tOrD (tBoolD (tBin (oIs true) (tMethD Γ "take_head" 1 [] (tVarD 5) (tConsD (tVarD 3) tNilD) tNilD) (tConD .non))) (tBoolD (tBin (oIs true) (tMethD Γ "at_end" 0 [] (tVarD 5) tNilD tNilD) (tConD (.bl true))))) (sSeq (sRet (tConD (.bl false))) sNext) sNext) sNext))))) sNext)) (sSeq (sAsg (tCallD (Γ 12) [] 3 0 (tConsD (tVarD 0) (tConsD (tVarD 1) (tConsD (tConD (.int 9)) tNilD))) tNilD) (gNm 6)) (sSeq (sAsg (tCallD (spMake (Γ 9) 0) [] 1 0 (tConsD (tBin oAdd (tBin oAdd (tBltD oStr (tConsD (tBin oAdd (tVarD 6) (tConD (.int 1))) tNilD)) (tConD (.str ";"))) (tBin oMul (tConD (.str "1")) (tVarD 6))) tNilD) tNilD) (gNm 5)) (sSeq (sRet (Y.tAndV (tCallD (Γ 2) [] 3 0 (tConsD (tVarD 5) (tConsD (tConD (.int 1)) (tConsD (tConD (.str "")) tNilD))) tNilD) (tCallD (Γ 4) [] 2 0 (tConsD (tMethD Γ "take_number" 0 [] (tVarD 5) tNilD tNilD) (tConsD (tBin oAdd (tVarD 6) (tConD (.int 1))) tNilD)) tNilD))) sNext)))))
def d__law_wrong : DY := { at_ := ("_law_wrong", none), name := "_law_wrong", qual := "_law_wrong", st := (top 18), N := ["_law_script", "_law_state", "_law_numbers", "_law_text_here", "_law_kind", "_law_reader", "_law_size"], np := 2, b := b__law_wrong }
theorem g__law_wrong : DY.Good d__law_wrong := ⟨⟨rfl, rfl, rfl, by decide +kernel, rfl, by decide +kernel, by decide +kernel⟩, rfl, fun _ => by kernel_rfl, fun _ _ _ _ _ _ us hl => match us, hl with | [_, _], _ => rfl⟩
/-- _law_refused -/
def b__law_refused (Γ : Nat → SpD) : TSD := (sSeq (sTryAs "FirstwayError" 3 (sSeq (sIf (tBoolD (tBin oEq (tVarD 1) (tConD (.int 0)))) (sSeq (sExp (tMethD Γ "take_number" 0 [] (tVarD 0) tNilD tNilD)) sNext) (sSeq (sIf (tBoolD (tBin oEq (tVarD 1) (tConD (.int 1)))) (sSeq (sExp (tMethD Γ "take_text" 0 [] (tVarD 0) tNilD tNilD)) sNext) (sSeq (sExp (tMethD Γ "take_head" 1 [] (tVarD 0) (tConsD (tVarD 2) tNilD) tNilD)) sNext)) sNext)) sNext) (fun k a => (sSeq (sRet (Y.tAndV (tIsE k a "SavedTextError" (tVarD 3)) (Y.tAndV (tIsE k a "ValueError" (tVarD 3)) (tNotVD (tIsE k a "CountError" (tVarD 3)))))) sNext))) (sSeq (sRet (tConD (.bl false))) sNext))
def d__law_refused : DY := { at_ := ("_law_refused", none), name := "_law_refused", qual := "_law_refused", st := (top 17), N := ["_law_reader", "_law_kind", "_law_head", "e"], np := 3, b := b__law_refused }
theorem g__law_refused : DY.Good d__law_refused := ⟨⟨rfl, rfl, rfl, by decide +kernel, rfl, by decide +kernel, by decide +kernel⟩, rfl, fun _ => by kernel_rfl, fun _ _ _ _ _ _ us hl => match us, hl with | [_, _, _], _ => rfl⟩
/-- SavedReader_at_end -/
def b_SavedReader_at_end (Γ : Nat → SpD) : TSD := (sSeq (sRet (tBin oEq (tFldD (tVarD 0) "position") (tBltD oLen (tConsD (tFldD (tVarD 0) "text") tNilD)))) sNext)
def d_SavedReader_at_end : DY := { at_ := ("SavedReader", some "at_end"), name := "at_end", qual := "SavedReader.at_end", st := (mth 9 5), N := ["self"], np := 1, b := b_SavedReader_at_end }
theorem g_SavedReader_at_end : DY.Good d_SavedReader_at_end := ⟨⟨rfl, rfl, rfl, by decide +kernel, rfl, by decide +kernel, by decide +kernel⟩, rfl, fun _ => by kernel_rfl, fun _ _ _ _ _ _ us hl => match us, hl with | [_], _ => rfl⟩
/-- _law_same -/
def b__law_same (Γ : Nat → SpD) : TSD := (sSeq (sIf (tBoolD (tBin (oIs false) (tVarD 1) (tConD .non))) (sSeq (sRet (tBin (oIs false) (tVarD 0) (tConD .non))) sNext) sNext) (sSeq (sIf (tTruD (tIsiD "bool" (tVarD 1))) (sSeq (sRet (Y.tAndV (tIsiD "bool" (tVarD 0)) (tBin oEq (tVarD 0) (tVarD 1)))) sNext) sNext) (sSeq (sIf (tTruD (tIsiD "int" (tVarD 1))) (sSeq (sRet (Y.tAndV (tIsiD "int" (tVarD 0)) (Y.tAndV (tNotVD (tIsiD "bool" (tVarD 0))) (tBin oEq (tVarD 0) (tVarD 1))))) sNext) sNext) (sSeq (sIf (tTruD (tIsiD "str" (tVarD 1))) (sSeq (sRet (Y.tAndV (tIsiD "str" (tVarD 0)) (tBin oEq (tVarD 0) (tVarD 1)))) sNext) sNext) (sSeq (sIf (tAndD (tTruD (tIsiD "tuple" (tVarD 1))) (tNotD (tTruD (tIsiD "tuple" (tVarD 0))))) (sSeq (sRet (tConD (.bl false))) sNext) sNext) (sSeq (sIf (tAndD (tTruD (tIsiD "list" (tVarD 1))) (tNotD (tTruD (tIsiD "list" (tVarD 0))))) (sSeq (sRet (tConD (.bl false))) sNext) sNext) (sSeq (sIf (tBoolD (tBin oNe (tBltD oLen (tConsD (tVarD 0) tNilD)) (tBltD oLen (tConsD (tVarD 1) tNilD)))) (sSeq (sRet (tConD (.bl false))) sNext) sNext) (sSeq (sFor (tRng1D (tBltD oLen (tConsD (tVarD 1) tNilD))) (gNm 2) (sSeq (sIf (tNotD (tTruD (tCallD (Γ 4) [] 2 0 (tConsD (tBin oIx (tVarD 0) (tVarD 2)) (tConsD (tBin oIx (tVarD 1) (tVarD 2)) tNilD)) tNilD))) (sSeq (sRet (tConD (.bl false))) sNext) sNext) sNext)) (sSeq (sRet (tConD (.bl true))) sNext)))))))))
def d__law_same : DY := { at_ := ("_law_same", none), name := "_law_same", qual := "_law_same", st := (top 14), N := ["_law_actual", "_law_expected", "_law_k"], np := 2, b := b__law_same }
theorem g__law_same : DY.Good d__law_same := ⟨⟨rfl, rfl, rfl, by decide +kernel, rfl, by decide +kernel, by decide +kernel⟩, rfl, fun _ => by kernel_rfl, fun _ _ _ _ _ _ us hl => match us, hl with | [_, _], _ => rfl⟩
/-- SavedReader_take_text -/
def b_SavedReader_take_text (Γ : Nat → SpD) : TSD := (sSeq (sAsg (tMethD Γ "number_end" 0 [] (tVarD 0) tNilD tNilD) (gNm 1)) (sSeq (sAsg (tBltD oInt (tConsD (tSlD (tFldD (tVarD 0) "text") (tPartD (tFldD (tVarD 0) "position")) (tPartD (tVarD 1))) tNilD)) (gNm 2)) (sSeq (sIf (tBoolD (tBin oGt (tVarD 2) (tBin oSub (tBin oSub (tBltD oLen (tConsD (tFldD (tVarD 0) "text") tNilD)) (tVarD 1)) (tConD (.int 1))))) (sSeq (sRaise 3) sNext) sNext) (sSeq (sFld (tVarD 0) (tBin oAdd (tBin oAdd (tVarD 1) (tConD (.int 1))) (tVarD 2)) "position") (sSeq (sRet (tSlD (tFldD (tVarD 0) "text") (tPartD (tBin oAdd (tVarD 1) (tConD (.int 1)))) (tPartD (tBin oAdd (tBin oAdd (tVarD 1) (tConD (.int 1))) (tVarD 2))))) sNext)))))
def d_SavedReader_take_text : DY := { at_ := ("SavedReader", some "take_text"), name := "take_text", qual := "SavedReader.take_text", st := (mth 9 4), N := ["self", "end", "size"], np := 1, b := b_SavedReader_take_text }
theorem g_SavedReader_take_text : DY.Good d_SavedReader_take_text := ⟨⟨rfl, rfl, rfl, by decide +kernel, rfl, by decide +kernel, by decide +kernel⟩, rfl, fun _ => by kernel_rfl, fun _ _ _ _ _ _ us hl => match us, hl with | [_], _ => rfl⟩
/-- SavedReader_take_number -/
def b_SavedReader_take_number (Γ : Nat → SpD) : TSD := (sSeq (sAsg (tMethD Γ "number_end" 0 [] (tVarD 0) tNilD tNilD) (gNm 1)) (sSeq (sAsg (tBltD oInt (tConsD (tSlD (tFldD (tVarD 0) "text") (tPartD (tFldD (tVarD 0) "position")) (tPartD (tVarD 1))) tNilD)) (gNm 2)) (sSeq (sFld (tVarD 0) (tBin oAdd (tVarD 1) (tConD (.int 1))) "position") (sSeq (sRet (tVarD 2)) sNext))))
def d_SavedReader_take_number : DY := { at_ := ("SavedReader", some "take_number"), name := "take_number", qual := "SavedReader.take_number", st := (mth 9 3), N := ["self", "end", "number"], np := 1, b := b_SavedReader_take_number }
theorem g_SavedReader_take_number : DY.Good d_SavedReader_take_number := ⟨⟨rfl, rfl, rfl, by decide +kernel, rfl, by decide +kernel, by decide +kernel⟩, rfl, fun _ => by kernel_rfl, fun _ _ _ _ _ _ us hl => match us, hl with | [_], _ => rfl⟩
/-- _law_written -/
def b__law_written (Γ : Nat → SpD) : TSD := (sSeq (sIf (tTruD (tIsiD "str" (tVarD 0))) (sSeq (sRet (tBin oAdd (tBin oAdd (tBltD oStr (tConsD (tBltD oLen (tConsD (tVarD 0) tNilD)) tNilD)) (tConD (.str ";"))) (tVarD 0))) sNext) sNext) (sSeq (sRet (tBin oAdd (tBltD oStr (tConsD (tVarD 0) tNilD)) (tConD (.str ";")))) sNext))
def d__law_written : DY := { at_ := ("_law_written", none), name := "_law_written", qual := "_law_written", st := (top 16), N := ["_law_word_here"], np := 1, b := b__law_written }
theorem g__law_written : DY.Good d__law_written := ⟨⟨rfl, rfl, rfl, by decide +kernel, rfl, by decide +kernel, by decide +kernel⟩, rfl, fun _ => by kernel_rfl, fun _ _ _ _ _ _ us hl => match us, hl with | [_], _ => rfl⟩
/-- SavedReader_take_head -/
def b_SavedReader_take_head (Γ : Nat → SpD) : TSD := (sSeq (sIf (tBoolD (tBin oNe (tSlD (tFldD (tVarD 0) "text") (tPartD (tFldD (tVarD 0) "position")) (tPartD (tBin oAdd (tFldD (tVarD 0) "position") (tBltD oLen (tConsD (tVarD 1) tNilD))))) (tVarD 1))) (sSeq (sRaise 3) sNext) sNext) (sSeq (sFldAug (tVarD 0) (tBltD oLen (tConsD (tVarD 1) tNilD)) oInAdd "position") sNext))
def d_SavedReader_take_head : DY := { at_ := ("SavedReader", some "take_head"), name := "take_head", qual := "SavedReader.take_head", st := (mth 9 1), N := ["self", "head"], np := 2, b := b_SavedReader_take_head }
theorem g_SavedReader_take_head : DY.Good d_SavedReader_take_head := ⟨⟨rfl, rfl, rfl, by decide +kernel, rfl, by decide +kernel, by decide +kernel⟩, rfl, fun _ => by kernel_rfl, fun _ _ _ _ _ _ us hl => match us, hl with | [_, _], _ => rfl⟩
/-- SavedReader___init__ -/
def b_SavedReader___init__ (Γ : Nat → SpD) : TSD := (sSeq (sFld (tVarD 0) (tVarD 1) "text") (sSeq (sFld (tVarD 0) (tConD (.int 0)) "position") sNext))
def d_SavedReader___init__ : DY := { at_ := ("SavedReader", some "__init__"), name := "__init__", qual := "SavedReader.__init__", st := (mth 9 0), N := ["self", "text"], np := 2, b := b_SavedReader___init__ }
theorem g_SavedReader___init__ : DY.Good d_SavedReader___init__ := ⟨⟨rfl, rfl, rfl, by decide +kernel, rfl, by decide +kernel, by decide +kernel⟩, rfl, fun _ => by kernel_rfl, fun _ _ _ _ _ _ us hl => match us, hl with | [_, _], _ => rfl⟩
/-- write_number -/
def b_write_number (Γ : Nat → SpD) : TSD := (sSeq (sRet (tBin oAdd (tBltD oStr (tConsD (tVarD 0) tNilD)) (tConD (.str ";")))) sNext)
def d_write_number : DY := { at_ := ("write_number", none), name := "write_number", qual := "write_number", st := (top 7), N := ["number"], np := 1, b := b_write_number }
theorem g_write_number : DY.Good d_write_number := ⟨⟨rfl, rfl, rfl, by decide +kernel, rfl, by decide +kernel, by decide +kernel⟩, rfl, fun _ => by kernel_rfl, fun _ _ _ _ _ _ us hl => match us, hl with | [_], _ => rfl⟩
/-- write_text -/
def b_write_text (Γ : Nat → SpD) : TSD := (sSeq (sRet (tBin oAdd (tCallD (Γ 10) [] 1 0 (tConsD (tBltD oLen (tConsD (tVarD 0) tNilD)) tNilD) tNilD) (tVarD 0))) sNext)
def d_write_text : DY := { at_ := ("write_text", none), name := "write_text", qual := "write_text", st := (top 8), N := ["text"], np := 1, b := b_write_text }
theorem g_write_text : DY.Good d_write_text := ⟨⟨rfl, rfl, rfl, by decide +kernel, rfl, by decide +kernel, by decide +kernel⟩, rfl, fun _ => by kernel_rfl, fun _ _ _ _ _ _ us hl => match us, hl with | [_], _ => rfl⟩
/-- _law_digit -/
def b__law_digit (Γ : Nat → SpD) : TSD := (sSeq (sIf (tBoolD (tBin oEq (tBin oIx (tVarD 1) (tConD (.int 0))) (tConD (.int 0)))) (sSeq (sIx (tVarD 1) (tConD (.int 0)) (tCallD (Γ 16) [] 2 0 (tConsD (tVarD 0) (tConsD (tBin oIx (tVarD 1) (tConD (.int 1))) tNilD)) tNilD)) (sSeq (sIx (tVarD 1) (tConD (.int 1)) (tBin oAdd (tBin oIx (tVarD 1) (tConD (.int 1))) (tConD (.int 1)))) sNext)) sNext) (sSeq (sAsg (tBin oMod (tBltD oInt (tConsD (tBin oIx (tVarD 1) (tConD (.int 0))) tNilD)) (tVarD 2)) (gNm 3)) (sSeq (sIx (tVarD 1) (tConD (.int 0)) (tBin oDiv (tBin oIx (tVarD 1) (tConD (.int 0))) (tVarD 2))) (sSeq (sRet (tVarD 3)) sNext))))
def d__law_digit : DY := { at_ := ("_law_digit", none), name := "_law_digit", qual := "_law_digit", st := (top 12), N := ["_law_script", "_law_state", "_law_many", "_law_digit_here"], np := 3, b := b__law_digit }
theorem g__law_digit : DY.Good d__law_digit := ⟨⟨rfl, rfl, rfl, by decide +kernel, rfl, by decide +kernel, by decide +kernel⟩, rfl, fun _ => by kernel_rfl, fun _ _ _ _ _ _ us hl => match us, hl with | [_, _, _], _ => rfl⟩
/-- _law_word -/
def b__law_word (Γ : Nat → SpD) : TSD := (sSeq (sAsg (tCallD (Γ 12) [] 3 0 (tConsD (tVarD 0) (tConsD (tVarD 1) (tConsD (tConD (.int 6)) tNilD))) tNilD) (gNm 2)) (sSeq (sIf (tBoolD (tBin oLt (tVarD 2) (tConD (.int 2)))) (sSeq (sRet (tBin oIx (tLstD (tConsD (tCallD (Γ 12) [] 3 0 (tConsD (tVarD 0) (tConsD (tVarD 1) (tConsD (tConD (.int 10)) tNilD))) tNilD) (tConsD (tCallD (Γ 12) [] 3 0 (tConsD (tVarD 0) (tConsD (tVarD 1) (tConsD (tBin oPow (tConD (.int 10)) (tConD (.int 9))) tNilD))) tNilD) tNilD))) (tVarD 2))) sNext) sNext) (sSeq (sIf (tBoolD (tBin oEq (tVarD 2) (tConD (.int 2)))) (sSeq (sRet (tBin oIx (tLstD (tConsD (tConD (.int 0)) (tConsD (tConD (.int 9)) (tConsD (tConD (.int 10)) (tConsD (tConD (.int 99999999)) (tConsD (tConD (.int 100000000)) (tConsD (tConD (.int 999999999)) tNilD))))))) (tCallD (Γ 12) [] 3 0 (tConsD (tVarD 0) (tConsD (tVarD 1) (tConsD (tConD (.int 6)) tNilD))) tNilD))) sNext) sNext) (sSeq (sIf (tBoolD (tBin oEq (tVarD 2) (tConD (.int 3)))) (sSeq (sRet (tBin oIx (tLstD (tConsD (tConD (.str "")) (tConsD (tConD (.str "3;")) (tConsD (tConD (.str "3;abc")) (tConsD (tConD (.str "0;0;")) (tConsD (tConD (.str ";")) (tConsD (tConD (.str "\n")) (tConsD (tConD (.str "12")) tNilD)))))))) (tCallD (Γ 12) [] 3 0 (tConsD (tVarD 0) (tConsD (tVarD 1) (tConsD (tConD (.int 7)) tNilD))) tNilD))) sNext) sNext) (sSeq (sRet (tCallD (Γ 14) [] 3 0 (tConsD (tVarD 0) (tConsD (tVarD 1) (tConsD (tConD (.int 12)) tNilD))) tNilD)) sNext)))))
def d__law_word : DY := { at_ := ("_law_word", none), name := "_law_word", qual := "_law_word", st := (top 15), N := ["_law_script", "_law_state", "_law_kind"], np := 2, b := b__law_word }
theorem g__law_word : DY.Good d__law_word := ⟨⟨rfl, rfl, rfl, by decide +kernel, rfl, by decide +kernel, by decide +kernel⟩, rfl, fun _ => by kernel_rfl, fun _ _ _ _ _ _ us hl => match us, hl with | [_, _], _ => rfl⟩
/-- _law_text -/
def b__law_text (Γ : Nat → SpD) : TSD := (sSeq (sAsg (tConD (.str " !\"#$&'()*+,-./0123456789:;<=>?@ABCDEFGHIJKLMNOPQRSTUVWXYZ[\\]^_`")) (gNm 3)) (sSeq (sAsg (tBin oAdd (tVarD 3) (tConD (.str "abcdefghijklmnopqrstuvwxyz{|}~\n\t"))) (gNm 3)) (sSeq (sAsg (tBin oIx (tLstD (tConsD (tConD (.str "ab")) (tConsD (tConD (.str "abc")) (tConsD (tConD (.str "aab")) (tConsD (tConD (.str "abA_ 1\n-")) (tConsD (tConD (.str "ab\n")) (tConsD (tVarD 3) tNilD))))))) (tCallD (Γ 12) [] 3 0 (tConsD (tVarD 0) (tConsD (tVarD 1) (tConsD (tConD (.int 6)) tNilD))) tNilD)) (gNm 3)) (sSeq (sAsg (tBltD oMax (tConsD (tCallD (Γ 12) [] 3 0 (tConsD (tVarD 0) (tConsD (tVarD 1) (tConsD (tBin oAdd (tVarD 2) (tConD (.int 1))) tNilD))) tNilD) (tConsD (tCallD (Γ 12) [] 3 0 (tConsD (tVarD 0) (tConsD (tVarD 1) (tConsD (tBin oAdd (tVarD 2) (tConD (.int 1))) tNilD))) tNilD) tNilD))) (gNm 4)) (sSeq (sRet (tBmS mJoin (tConD (.str "")) (tConsD (tLcD (tRng1D (tVarD 4)) (.nm 5) tYesD (tBin oIx (tVarD 3) (tCallD (Γ 12) [] 3 0 (tConsD (tVarD 0) (tConsD (tVarD 1) (tConsD (tBltD oLen (tConsD (tVarD 3) tNilD)) tNilD))) tNilD)) [5]) tNilD))) sNext)))))
def d__law_text : DY := { at_ := ("_law_text", none), name := "_law_text", qual := "_law_text", st := (top 13), N := ["_law_script", "_law_state", "_law_most", "_law_signs", "_law_size", "_law_k"], np := 3, b := b__law_text }
theorem g__law_text : DY.Good d__law_text := ⟨⟨rfl, rfl, rfl, by decide +kernel, rfl, by decide +kernel, by decide +kernel⟩, rfl, fun _ => by kernel_rfl, fun _ _ _ _ _ _ us hl => match us, hl with | [_, _, _], _ => rfl⟩
/-- SavedReader_number_end -/
def b_SavedReader_number_end (Γ : Nat → SpD) : TSD := (sSeq (sAsg (tFldD (tVarD 0) "position") (gNm 1)) (sSeq (sWhl (tAndD (tBoolD (tBin oLt (tVarD 1) (tBltD oLen (tConsD (tFldD (tVarD 0) "text") tNilD)))) (tBoolD (tBin (oIn false) (tBin oIx (tFldD (tVarD 0) "text") (tVarD 1)) (tConD (.str "0123456789"))))) (sSeq (sAug 1 (tConD (.int 1)) oInAdd) sNext)) (sSeq (sAsg (tBin oSub (tVarD 1) (tFldD (tVarD 0) "position")) (gNm 2)) (sSeq (sIf (tOrD (tBoolD (tBin oEq (tVarD 2) (tConD (.int 0)))) (tOrD (tBoolD (tBin oGt (tVarD 2) (tConD (.int 9)))) (tAndD (tBoolD (tBin oGt (tVarD 2) (tConD (.int 1)))) (tBoolD (tBin oEq (tBin oIx (tFldD (tVarD 0) "text") (tFldD (tVarD 0) "position")) (tConD (.str "0"))))))) (sSeq (sRaise 3) sNext) sNext) (sSeq (sIf (tBoolD (tBin oNe (tSlD (tFldD (tVarD 0) "text") (tPartD (tVarD 1)) (tPartD (tBin oAdd (tVarD 1) (tConD (.int 1))))) (tConD (.str ";")))) (sSeq (sRaise 3) sNext) sNext) (sSeq (sRet (tVarD 1)) sNext))))))
def d_SavedReader_number_end : DY := { at_ := ("SavedReader", some "number_end"), name := "number_end", qual := "SavedReader.number_end", st := (mth 9 2), N := ["self", "end", "digits"], np := 1, b := b_SavedReader_number_end }
theorem g_SavedReader_number_end : DY.Good d_SavedReader_number_end := ⟨⟨rfl, rfl, rfl, by decide +kernel, rfl, by decide +kernel, by decide +kernel⟩, rfl, fun _ => by kernel_rfl, fun _ _ _ _ _ _ us hl => match us, hl with | [_], _ => rfl⟩
/-- _law_row -/
def b__law_row (Γ : Nat → SpD) : TSD := (sSeq (sAsg (tConD (.int 0)) (gNm 2)) (sSeq (sIf (tBoolD (tBin oLt (tVarD 1) (tBltD oLen (tConsD (tVarD 0) tNilD)))) (sSeq (sAsg (tBin oIx (tVarD 0) (tVarD 1)) (gNm 2)) sNext) sNext) (sSeq (sIf (tBoolD (tBin oLt (tVarD 2) (tConD (.int 0)))) (sSeq (sAsg (tBin oSub (tConD (.int 1)) (tBin oMul (tConD (.int 2)) (tVarD 2))) (gNm 2)) sNext) sNext) (sSeq (sIf (tBoolD (tBin oGe (tVarD 2) (tBin oPow (tConD (.int 10)) (tConD (.int 9))))) (sSeq (sRet (tVarD 2)) sNext) sNext) (sSeq (sAsg (tBin oMod (tBltD oInt (tConsD (tBin oAdd (tBin oMul (tBin oAdd (tBin oAdd (tVarD 2) (tBin oMul (tConD (.int 7919)) (tVarD 1))) (tConD (.int 1))) (tConD (.int 6364136223846793005))) (tConD (.int 1442695040888963407))) tNilD)) (tConD (.int 2305843009213693951))) (gNm 3)) (sSeq (sRet (tBin oMod (tBltD oInt (tConsD (tBin oAdd (tBin oAdd (tBin oMul (tVarD 3) (tVarD 3)) (tBin oMul (tConD (.int 104729)) (tVarD 1))) (tConD (.int 977))) tNilD)) (tConD (.int 2305843009213693951)))) sNext))))))
def d__law_row : DY := { at_ := ("_law_row", none), name := "_law_row", qual := "_law_row", st := (top 11), N := ["_law_script", "_law_k", "_law_cell", "_law_mixed"], np := 2, b := b__law_row }
theorem g__law_row : DY.Good d__law_row := ⟨⟨rfl, rfl, rfl, by decide +kernel, rfl, by decide +kernel, by decide +kernel⟩, rfl, fun _ => by kernel_rfl, fun _ _ _ _ _ _ us hl => match us, hl with | [_, _], _ => rfl⟩
def ds : List DY := [d_law, d__law_wrong, d__law_refused, d_SavedReader_at_end, d__law_same, d_SavedReader_take_text, d_SavedReader_take_number, d__law_written, d_SavedReader_take_head, d_SavedReader___init__, d_write_number, d_write_text, d__law_digit, d__law_word, d__law_text, d_SavedReader_number_end, d__law_row]
theorem good : ∀ d ∈ ds, DY.Good d := by
  intro d h
  simp only [ds, List.mem_cons, List.not_mem_nil, or_false] at h
  rcases h with rfl | rfl | rfl | rfl | rfl | rfl | rfl | rfl | rfl | rfl | rfl | rfl | rfl | rfl | rfl | rfl | rfl
  all_goals first | exact g_law | exact g__law_wrong | exact g__law_refused | exact g_SavedReader_at_end | exact g__law_same | exact g_SavedReader_take_text | exact g_SavedReader_take_number | exact g__law_written | exact g_SavedReader_take_head | exact g_SavedReader___init__ | exact g_write_number | exact g_write_text | exact g__law_digit | exact g__law_word | exact g__law_text | exact g_SavedReader_number_end | exact g__law_row
theorem w_law (n : Nat) : WW ds (n + 1) 0 = runD 1 9 (b_law (WW ds n)) := rfl
theorem w__law_wrong (n : Nat) : WW ds (n + 1) 1 = runD 2 7 (b__law_wrong (WW ds n)) := rfl
theorem w__law_refused (n : Nat) : WW ds (n + 1) 2 = runD 3 4 (b__law_refused (WW ds n)) := rfl
theorem w_SavedReader_at_end (n : Nat) : WW ds (n + 1) 3 = runD 1 1 (b_SavedReader_at_end (WW ds n)) := rfl
theorem w__law_same (n : Nat) : WW ds (n + 1) 4 = runD 2 3 (b__law_same (WW ds n)) := rfl
theorem w_SavedReader_take_text (n : Nat) : WW ds (n + 1) 5 = runD 1 3 (b_SavedReader_take_text (WW ds n)) := rfl
theorem w_SavedReader_take_number (n : Nat) : WW ds (n + 1) 6 = runD 1 3 (b_SavedReader_take_number (WW ds n)) := rfl
theorem w__law_written (n : Nat) : WW ds (n + 1) 7 = runD 1 1 (b__law_written (WW ds n)) := rfl
theorem w_SavedReader_take_head (n : Nat) : WW ds (n + 1) 8 = runD 2 2 (b_SavedReader_take_head (WW ds n)) := rfl
theorem w_SavedReader___init__ (n : Nat) : WW ds (n + 1) 9 = runD 2 2 (b_SavedReader___init__ (WW ds n)) := rfl
theorem w_write_number (n : Nat) : WW ds (n + 1) 10 = runD 1 1 (b_write_number (WW ds n)) := rfl
theorem w_write_text (n : Nat) : WW ds (n + 1) 11 = runD 1 1 (b_write_text (WW ds n)) := rfl
theorem w__law_digit (n : Nat) : WW ds (n + 1) 12 = runD 3 4 (b__law_digit (WW ds n)) := rfl
theorem w__law_word (n : Nat) : WW ds (n + 1) 13 = runD 2 3 (b__law_word (WW ds n)) := rfl
theorem w__law_text (n : Nat) : WW ds (n + 1) 14 = runD 3 6 (b__law_text (WW ds n)) := rfl
theorem w_SavedReader_number_end (n : Nat) : WW ds (n + 1) 15 = runD 1 3 (b_SavedReader_number_end (WW ds n)) := rfl
theorem w__law_row (n : Nat) : WW ds (n + 1) 16 = runD 2 4 (b__law_row (WW ds n)) := rfl
end K89

namespace K89
open PySem PySem.Spec PyProof.Rows L2 Y SX
local instance : Tab := tb.tab
theorem p_row {Γ : Nat → SpD} {ns : List Int} {k : Nat} {G : Hd} {Q : KD} {E : XD} (h : ∀ v : Nat, Q (.int v) G) : runD 2 4 (b__law_row Γ) [.rol (ns.map D.int), .int (k : Int)] G Q E := by
  have h' : ∀ v : Int, 0 ≤ v → Q (.int v) G := fun v hv => by
    have := h v.toNat
    rwa [Int.toNat_of_nonneg hv] at this
  refine ⟨rfl, seq_at (fun σ' G' => σ' = [some (.rol (ns.map D.int)), some (.int k), some (.int 0), none] ∧ G = G') ?_ fun nx hn => hn _ _ ⟨rfl, rfl⟩⟩
  rintro _ _ ⟨rfl, rfl⟩
  refine seq_at (fun σ' G' => ∃ c : Int, σ' = [some (.rol (ns.map D.int)), some (.int k), some (.int c), none] ∧ G = G') ?_ fun nx hn => ?_
  rotate_left
  · refine pk_dec (fun hk => ?_) fun _ => hn _ _ ⟨0, rfl, rfl⟩
    have hk : k < ns.length := by simpa using hk
    exact ⟨.int ns[k], atI_k (by simp [hk]), hn _ _ ⟨_, rfl, rfl⟩⟩
  rintro _ _ ⟨c, rfl, rfl⟩
  refine seq_at (fun σ' G' => ∃ c : Int, 0 ≤ c ∧ σ' = [some (.rol (ns.map D.int)), some (.int k), some (.int c), none] ∧ G = G') ?_ fun nx hn => ?_
  rotate_left
  · refine pk_dec (fun hk => ?_) fun hk => hn _ _ ⟨c, by omega, rfl, rfl⟩
    exact ⟨cmul_l (by decide) (by decide), hn _ _ ⟨1 - 2 * c, by omega, rfl, rfl⟩⟩
  rintro _ _ ⟨c, hc, rfl, rfl⟩
  refine seq_at (fun σ' G' => σ' = [some (.rol (ns.map D.int)), some (.int k), some (.int c), none] ∧ G = G' ∧ c < 10 ^ 9) ?_ fun nx hn => ?_
  rotate_left
  · refine ⟨⟨by decide, by decide, by decide⟩, pk_dec (fun _ => h' c hc) fun hk => hn _ _ ⟨rfl, rfl, ?_⟩⟩
    have hk : ¬ ((10 : Int) ^ 9 ≤ c) := hk
    omega
  rintro _ _ ⟨rfl, rfl, hc2⟩
  have e1 := Int.emod_lt_of_pos ((c + 7919 * k + 1) * 6364136223846793005 + 1442695040888963407) (show (0 : Int) < 2305843009213693951 by decide)
  have e2 := Int.emod_nonneg ((c + 7919 * k + 1) * 6364136223846793005 + 1442695040888963407) (show (2305843009213693951 : Int) ≠ 0 by decide)
  exact ⟨cmul_l (by decide) (by decide), cmul_r (by decide) (by decide), by decide, cmul_l (by omega) (by omega), cmul_l (by decide) (by decide), by decide, h' _ (Int.emod_nonneg _ (show (2305843009213693951 : Int) ≠ 0 by decide))⟩
/-- the state: two numbers, not negative -/
def Stt (G : Hd) (s : Addr) : Prop := ∃ (n k : Nat) (r : List D), G s = some (.lst (.int n :: .int k :: r))
def RowOk (f : SpD) : Prop := ∀ (ns : List Int) (k : Nat) (G : Hd) (Q : KD) (E : XD), (∀ v : Nat, Q (.int v) G) → f [.rol (ns.map D.int), .int (k : Int)] G Q E
def DigOk (f : SpD) : Prop := ∀ (ns : List Int) (m : Nat) (s : Addr) (G : Hd) (Q : KD) (E : XD), Stt G s → 0 < m → m < 1073741824 → (∀ (d : Nat) (G' : Hd), d < m → Stt G' s → (∀ a, a ≠ s → G' a = G a) → Q (.int d) G') →
  f [.rol (ns.map D.int), .ref s, .int (m : Int)] G Q E
theorem p_digit {Γ : Nat → SpD} (hrow : RowOk (Γ 16)) : DigOk (runD 3 4 (b__law_digit Γ)) := by
  intro ns m s G Q E hs hm hm2 h
  refine ⟨rfl, seq_at (fun σ' G' => σ' = [some (.rol (ns.map D.int)), some (.ref s), some (.int m), none] ∧ Stt G' s ∧ (∀ a, a ≠ s → G' a = G a)) ?_ fun nx hn => ?_⟩
  rotate_left
  · obtain ⟨n, k, r, e⟩ := hs
    refine ⟨_, _, e, atI0, ?_⟩
    refine pk_dec (fun _ => ?_) fun _ => hn _ _ ⟨rfl, ⟨n, k, r, e⟩, fun _ _ => rfl⟩
    refine ⟨_, _, e, atI1, rfl, rfl, hrow ns k G _ _ fun v => ?_⟩
    refine ⟨_, 0, e, ixN0, _, _, up_same, atI1, _, 1, up_same, ixN1, ?_⟩
    refine hn _ _ ⟨rfl, ⟨v, k + 1, r, ?_⟩, fun a ha => by rw [up_ne ha, up_ne ha]⟩
    rw [up_same]
    rfl
  rintro _ G' ⟨rfl, ⟨n, k, r, e⟩, fr⟩
  refine ⟨_, _, e, atI0, by show (0 : Int) < m; omega, _, _, e, atI0, ⟨by omega, by omega⟩, _, 0, e, ixN0, ?_⟩
  have := h (n % m) (up G' s (.lst (.int ((n / m : Nat) : Int) :: .int k :: r))) (Nat.mod_lt _ hm) ⟨n / m, k, r, up_same⟩ fun a ha => by rw [up_ne ha, fr a ha]
  rw [Int.natCast_emod, Int.natCast_ediv] at this
  exact this
/-- the same data, so deep -/
def Sm (G : Hd) : Nat → D → D → Prop
  | 0, _, _ => False
  | k + 1, x, y => (x = .non ∧ y = .non) ∨ (∃ b, x = .bl b ∧ y = .bl b) ∨ (∃ i, x = .int i ∧ y = .int i) ∨ (∃ z, x = .str z ∧ y = .str z) ∨
      (∃ xs ys, x = .tup xs ∧ y = .tup ys ∧ xs.length = ys.length ∧ xs.length < 2 ^ 62 ∧ ∀ (i : Nat) a b, xs[i]? = some a → ys[i]? = some b → Sm G k a b) ∨
      (∃ p q xs ys, x = .ref p ∧ y = .ref q ∧ G p = some (.lst xs) ∧ G q = some (.lst ys) ∧ xs.length = ys.length ∧ xs.length < 2 ^ 62 ∧ ∀ (i : Nat) a b, xs[i]? = some a → ys[i]? = some b → Sm G k a b)
def SameOk (f : SpD) (k : Nat) : Prop := ∀ (G : Hd) (x y : D) (Q : KD) (E : XD), Sm G k x y → Q (.bl true) G → f [x, y] G Q E
theorem p_same {Γ : Nat → SpD} {k : Nat} (ih : SameOk (Γ 4) k) : SameOk (runD 2 3 (b__law_same Γ)) (k + 1) := by
  intro G x y Q E h q
  refine ⟨rfl, ?_⟩
  rcases h with ⟨rfl, rfl⟩ | ⟨b, rfl, rfl⟩ | ⟨i, rfl, rfl⟩ | ⟨z, rfl, rfl⟩ | ⟨xs, ys, rfl, rfl, hl, hz, he⟩ | ⟨a, b, xs, ys, rfl, rfl, ea, eb, hl, hz, he⟩
  · exact q
  · have : (decide (b = b)) = true := by simp
    rw [← this] at q
    exact q
  · have : (decide (i = i)) = true := by simp
    rw [← this] at q
    exact q
  · have : (decide (z = z)) = true := by simp
    rw [← this] at q
    exact q
  · refine pk_not (pk_dec (fun _ => ?_) fun h => (h (by rw [hl])).elim)
    refine ⟨by omega, by omega, for_rng (fun j σ G' => ∃ o, σ = [some (.tup xs), some (.tup ys), o] ∧ G = G') (hi := ys.length) (by simp) ⟨none, rfl, rfl⟩ (fun _ _ ⟨o, e1, e2⟩ => by subst e1 e2; exact q) ?_⟩
    rintro j _ _ kk h0 h1 ⟨o, rfl, rfl⟩ hk
    obtain ⟨i, rfl⟩ : ∃ i : Nat, j = i := ⟨j.toNat, by omega⟩
    have i1 : i < ys.length := by omega
    have i2 : i < xs.length := by omega
    exact ⟨xs[i], atI_k (by simp [i2]), ys[i], atI_k (by simp [i1]), rfl, rfl, ih G _ _ _ _ (he i _ _ (by simp [i2]) (by simp [i1])) (hk _ _ ⟨_, rfl, rfl⟩)⟩
  · refine ⟨ys, eb, ys, eb, ys, eb, ys, eb, ys, eb, xs, ea, xs, ea, ys, eb, pk_not (pk_dec (fun _ => ?_) fun h => (h (by rw [hl])).elim)⟩
    refine ⟨ys, eb, by omega, by omega, for_rng (fun j σ G' => ∃ o, σ = [some (.ref a), some (.ref b), o] ∧ G = G') (hi := ys.length) (by simp) ⟨none, rfl, rfl⟩ (fun _ _ ⟨o, e1, e2⟩ => by subst e1 e2; exact q) ?_⟩
    rintro j _ _ kk h0 h1 ⟨o, rfl, rfl⟩ hk
    obtain ⟨i, rfl⟩ : ∃ i : Nat, j = i := ⟨j.toNat, by omega⟩
    have i1 : i < ys.length := by omega
    have i2 : i < xs.length := by omega
    exact ⟨xs, xs[i], ea, atI_k (by simp [i2]), ys, ys[i], eb, atI_k (by simp [i1]), rfl, rfl, ih G _ _ _ _ (he i _ _ (by simp [i2]) (by simp [i1])) (hk _ _ ⟨_, rfl, rfl⟩)⟩
theorem same_ok : ∀ (k n : Nat), k ≤ n → SameOk (WW ds n 4) k
  | 0, _, _ => fun _ _ _ _ _ h => h.elim
  | k + 1, 0, h => by omega
  | k + 1, n + 1, h => by
    rw [w__law_same]
    exact p_same (same_ok k n (by omega))
/-! ### the reader -/
def Rf (l : List Nat) (p : Nat) : List (Str × D) := [("text", .str (S l)), ("position", .int (p : Int))]
theorem rf_t {l : List Nat} {p : Nat} : (Rf l p).lookup ("text" : Str) = some (D.str (S l)) := rfl
theorem rf_p {l : List Nat} {p : Nat} : (Rf l p).lookup ("position" : Str) = some (D.int (p : Int)) := by
  unfold Rf
  rw [List.lookup_cons, show (("position" : Str) == ("text" : Str)) = false by decide, List.lookup_cons]
  rfl
theorem rf_put {l : List Nat} {p q : Nat} : putD "position" (.int (q : Int)) (Rf l p) = Rf l q := by
  unfold Rf
  show (if ("text" : Str) = "position" then _ else _) = _
  rw [if_neg (by decide)]
  show _ :: (if ("position" : Str) = "position" then _ else _) = _
  rw [if_pos rfl]
theorem a_t : tb.tab.att 0 "text" = true := by decide +kernel
theorem a_p : tb.tab.att 0 "position" = true := by decide +kernel
/-- a number's end, or none -/
def numEnd (l : List Nat) (p : Nat) : Option Nat :=
  if digs (l.drop p) = 0 ∨ 9 < digs (l.drop p) ∨ (1 < digs (l.drop p) ∧ l[p]? = some 48) then none else if (l.drop (p + digs (l.drop p))).take 1 = [59] then some (p + digs (l.drop p)) else none
def HeadOk (f : SpD) : Prop := ∀ (r : Addr) (l h : List Nat) (p : Nat) (G : Hd) (Q : KD) (E : XD), G r = some (.ins 0 (Rf l p)) → l.length ≤ 100000 → h.length ≤ 100000 →
  ((l.drop p).take h.length = h → Q .non (up G r (.ins 0 (Rf l (p + h.length))))) → ((l.drop p).take h.length ≠ h → E 3 [] G) → f [.ref r, .str (S h)] G Q E
theorem sz {n : Nat} (h : n ≤ 100000) : n ≤ sizeLine := by rw [sizeLine_eq]; omega
theorem szS {l : List Nat} (h : l.length ≤ 100000) : (S l).length ≤ sizeLine := by rw [S_len]; exact sz h
theorem p_head {Γ : Nat → SpD} : HeadOk (runD 2 2 (b_SavedReader_take_head Γ)) := by
  intro r l h p G Q E e zl zh q1 q2
  refine ⟨rfl, seq_at (fun σ' G' => σ' = startD 2 [.ref r, .str (S h)] ∧ G = G' ∧ (l.drop p).take h.length = h) ?_ fun nx hn => ?_⟩
  rotate_left
  · refine ⟨0, _, _, e, a_t, rf_t, 0, _, _, e, a_p, rf_p, 0, _, _, e, a_p, rf_p, szS zh, szS zl, ?_⟩
    rw [cut_S' (a := p) (b := p + h.length) rfl (by rw [S_len]; simp)]
    rw [show p + h.length - p = h.length by omega]
    refine pk_not (pk_dec (fun hk => ?_) fun hk => ?_)
    · exact hn _ _ ⟨rfl, rfl, S_inj hk⟩
    · exact q2 fun z => hk (by rw [z])
  rintro _ _ ⟨rfl, rfl, hh⟩
  refine ⟨0, _, _, e, a_p, rf_p, szS zh, 0, _, e, rfl, by show 2 < 1000; decide, ?_⟩
  have := q1 hh
  rw [← rf_put (p := p)] at this
  rw [show ((S h).length : Nat) = h.length from S_len h]
  have e2 : ((p + h.length : Nat) : Int) = (p : Int) + (h.length : Int) := by simp
  rw [e2] at this
  exact this
def NumOk (f : SpD) : Prop := ∀ (r : Addr) (l : List Nat) (p : Nat) (G : Hd) (Q : KD) (E : XD), G r = some (.ins 0 (Rf l p)) → l.length ≤ 100000 → p ≤ l.length →
  (∀ e, numEnd l p = some e → Q (.int (e : Int)) G) → (numEnd l p = none → E 3 [] G) → f [.ref r] G Q E
theorem digs_stop {l : List Nat} {i : Nat} {c : Nat} (h : (l.drop i).head? = some c) (hc : dig c = true) : digs (l.drop i) = digs (l.drop (i + 1)) + 1 := by
  cases e : l.drop i with
  | nil => rw [e] at h; cases h
  | cons d r =>
    rw [e] at h
    cases h
    have e2 : l.drop (i + 1) = r := by rw [← List.tail_drop, e]; rfl
    rw [e2]
    unfold digs
    rw [List.takeWhile_cons, hc]
    rfl
theorem p_nend {Γ : Nat → SpD} : NumOk (runD 1 3 (b_SavedReader_number_end Γ)) := by
  intro r l p G Q E e zl hp q1 q2
  refine ⟨rfl, seq_at (fun σ' G' => σ' = [some (.ref r), some (.int (p : Int)), none] ∧ G = G') ?_ fun nx hn => ⟨0, _, _, e, a_p, rf_p, hn _ _ ⟨rfl, rfl⟩⟩⟩
  rintro _ _ ⟨rfl, rfl⟩
  refine seq_at (fun σ' G' => σ' = [some (.ref r), some (.int ((p + digs (l.drop p) : Nat) : Int)), none] ∧ G = G') ?_ fun nx hn => ?_
  rotate_left
  · -- the while
    refine ⟨l.length + 1 - p, ?_⟩
    have key : ∀ (m i : Nat), l.length + 1 - i ≤ m → p ≤ i → i ≤ l.length → p + digs (l.drop p) = i + digs (l.drop i) →
        whl (tAndD (tBoolD (tBin oLt (tVarD 1) (tBltD oLen (tConsD (tFldD (tVarD 0) "text") tNilD)))) (tBoolD (tBin (oIn false) (tBin oIx (tFldD (tVarD 0) "text") (tVarD 1)) (tConD (.str "0123456789"))))) (sSeq (sAug 1 (tConD (.int 1)) oInAdd) sNext)
          { nx := nx, rt := Q, bk := fun _ _ => False, ct := fun _ _ => False, ex := fun c fs _ G1 => E c fs G1 } m [some (.ref r), some (.int (i : Int)), none] G := by
      intro m
      induction m with
      | zero => intro i h1 h2 h3 h4; omega
      | succ m ih =>
        intro i h1 h2 h3 h4
        refine ⟨0, _, _, e, a_t, rf_t, szS zl, ?_⟩
        rw [S_len]
        refine pk_dec (fun hk => ?_) fun hk => ?_
        · have hk : i < l.length := by omega
          obtain ⟨c, hc⟩ : ∃ c, l[i]? = some c := ⟨l[i], by simp [hk]⟩
          refine ⟨0, _, _, e, a_t, rf_t, szS zl, c, at_S hc, .inl ⟨c, rfl, ?_⟩⟩
          have hd : (l.drop i).head? = some c := by rw [List.head?_drop]; exact hc
          rw [digits_mem]
          show pick (xor false (dig c)) _ _
          rw [Bool.false_xor]
          refine pk_of (fun hcd => ?_) fun hcd => ?_
          · have h5 := digs_stop hd hcd
            have := ih (i + 1) (by omega) (by omega) (by omega) (by omega)
            have e3 : ((i + 1 : Nat) : Int) = (i : Int) + 1 := by simp
            rw [e3] at this
            exact this
          · have h5 : digs (l.drop i) = 0 := by
              cases e4 : l.drop i with
              | nil => rfl
              | cons d w =>
                rw [e4] at hd
                cases hd
                unfold digs
                rw [List.takeWhile_cons, hcd]
                rfl
            refine hn _ _ ⟨?_, rfl⟩
            rw [h4, h5, Nat.add_zero]
        · have h5 : digs (l.drop i) = 0 := by rw [List.drop_of_length_le (by omega)]; rfl
          refine hn _ _ ⟨?_, rfl⟩
          rw [h4, h5, Nat.add_zero]
    exact key _ p (Nat.le_refl _) (Nat.le_refl _) hp rfl
  rintro _ _ ⟨rfl, rfl⟩
  have hd : ((p + digs (l.drop p) : Nat) : Int) - (p : Int) = (digs (l.drop p) : Int) := by push_cast; omega
  refine seq_at (fun σ' G' => σ' = [some (.ref r), some (.int ((p + digs (l.drop p) : Nat) : Int)), some (.int (digs (l.drop p) : Int))] ∧ G = G') ?_ fun nx hn => ⟨0, _, _, e, a_p, rf_p, ?_⟩
  rotate_left
  · have := hn [some (.ref r), some (.int ((p + digs (l.drop p) : Nat) : Int)), some (.int (digs (l.drop p) : Int))] G ⟨rfl, rfl⟩
    rw [← hd] at this
    exact this
  rintro _ _ ⟨rfl, rfl⟩
  have bad : (digs (l.drop p) = 0 ∨ 9 < digs (l.drop p) ∨ (1 < digs (l.drop p) ∧ l[p]? = some 48)) → E 3 [] G := fun h => q2 (by unfold numEnd; rw [if_pos h])
  refine seq_at (fun σ' G' => σ' = [some (.ref r), some (.int ((p + digs (l.drop p) : Nat) : Int)), some (.int (digs (l.drop p) : Int))] ∧ G = G' ∧ ¬ (digs (l.drop p) = 0 ∨ 9 < digs (l.drop p) ∨ (1 < digs (l.drop p) ∧ l[p]? = some 48))) ?_ fun nx hn => ?_
  rotate_left
  · refine pk_dec (fun hk => bad (.inl (by omega))) fun h1 => ?_
    refine pk_dec (fun hk => bad (.inr (.inl (by omega)))) fun h2 => ?_
    refine pk_dec (fun hk => ?_) fun h3 => hn _ _ ⟨rfl, rfl, by omega⟩
    have hp2 : p < l.length := by
      by_cases h : p < l.length
      · exact h
      · rw [List.drop_of_length_le (by omega)] at hk
        exact absurd hk (by decide)
    obtain ⟨c, hc⟩ : ∃ c, l[p]? = some c := ⟨l[p], by simp [hp2]⟩
    refine ⟨0, _, _, e, a_t, rf_t, 0, _, _, e, a_p, rf_p, szS zl, c, at_S hc, ?_⟩
    refine pk_dec (fun h4 => bad (.inr (.inr ⟨by omega, ?_⟩))) fun h4 => hn _ _ ⟨rfl, rfl, ?_⟩
    · have h5 : S [c] = S [48] := h4
      have h6 := S_inj h5
      cases h6
      exact hc
    · rintro (h | h | ⟨_, h⟩)
      · omega
      · omega
      · rw [hc] at h
        cases h
        exact h4 rfl
  rintro _ _ ⟨rfl, rfl, good⟩
  refine ⟨0, _, _, e, a_t, rf_t, szS zl, ?_⟩
  rw [cut_S' (a := p + digs (l.drop p)) (b := p + digs (l.drop p) + 1) rfl (by simp)]
  rw [show p + digs (l.drop p) + 1 - (p + digs (l.drop p)) = 1 by omega]
  refine pk_not (pk_dec (fun hk => ?_) fun hk => q2 ?_)
  · refine q1 _ ?_
    unfold numEnd
    have h5 : S ((l.drop (p + digs (l.drop p))).take 1) = S [59] := hk
    rw [if_neg good, if_pos (S_inj h5)]
  · unfold numEnd
    rw [if_neg good, if_neg]
    intro z
    exact hk (by rw [z]; rfl)
def valOf (l : List Nat) (p e : Nat) : Nat := NumText.digitsVal ((l.drop p).take (e - p))
theorem numEnd_le {l : List Nat} {p e : Nat} (h : numEnd l p = some e) : e = p + digs (l.drop p) ∧ 0 < digs (l.drop p) ∧ digs (l.drop p) ≤ 9 ∧ e + 1 ≤ l.length := by
  unfold numEnd at h
  split at h
  · cases h
  · split at h
    · rename_i h1 h2
      cases h
      refine ⟨rfl, by omega, by omega, ?_⟩
      have : ((l.drop (p + digs (l.drop p))).take 1).length = 1 := by rw [h2]; rfl
      simp at this
      omega
    · cases h
theorem digs_take (l : List Nat) : ∀ c ∈ l.take (digs l), dig c = true := by
  induction l with
  | nil => intro c h; simp at h
  | cons d r ih =>
    intro c h
    unfold digs at h
    rw [List.takeWhile_cons] at h
    cases hd : dig d with
    | false => rw [hd] at h; simp at h
    | true =>
      rw [hd] at h
      simp only [↓reduceIte, List.length_cons, List.take_succ_cons] at h
      rcases List.mem_cons.mp h with rfl | h
      · exact hd
      · exact ih c h
theorem val_reads {l : List Nat} {p e : Nat} (h : numEnd l p = some e) : intText? (S ((l.drop p).take (e - p))) = some ((valOf l p e : Nat) : Int) ∧ (S ((l.drop p).take (e - p))).length ≤ 640 := by
  obtain ⟨h1, h2, h3, h4⟩ := numEnd_le h
  have e1 : e - p = digs (l.drop p) := by omega
  have hl : ((l.drop p).take (e - p)).length ≤ 9 := by rw [List.length_take]; omega
  refine ⟨int_S ?_ ?_ (by omega), by rw [S_len]; omega⟩
  · rw [e1, List.all_eq_true]
    exact fun c hc => digs_take _ c hc
  · intro z
    have : ((l.drop p).take (e - p)).length = 0 := by rw [z]; rfl
    rw [List.length_take, List.length_drop] at this
    omega
def TNumOk (f : SpD) : Prop := ∀ (r : Addr) (l : List Nat) (p : Nat) (G : Hd) (Q : KD) (E : XD), G r = some (.ins 0 (Rf l p)) → l.length ≤ 100000 → p ≤ l.length →
  (∀ e, numEnd l p = some e → Q (.int (valOf l p e : Int)) (up G r (.ins 0 (Rf l (e + 1))))) → (numEnd l p = none → E 3 [] G) → f [.ref r] G Q E
theorem m_nend : tb.tab.meth 0 "number_end" 0 [] = some (15, []) := by kernel_rfl
theorem rf_no {l : List Nat} {p : Nat} {m : Str} (h1 : (m == ("text" : Str)) = false) (h2 : (m == ("position" : Str)) = false) : (Rf l p).lookup m = none := by
  unfold Rf
  rw [List.lookup_cons, h1, List.lookup_cons, h2]
  rfl
theorem p_tnum {Γ : Nat → SpD} (hn : NumOk (Γ 15)) : TNumOk (runD 1 3 (b_SavedReader_take_number Γ)) := by
  intro r l p G Q E e zl hp q1 q2
  refine ⟨rfl, 0, _, 15, [], e, m_nend, rf_no (by decide) (by decide), rfl, rfl, hn r l p G _ _ e zl hp (fun en hen => ?_) q2⟩
  obtain ⟨v1, v2⟩ := val_reads hen
  refine ⟨0, _, _, e, a_t, rf_t, 0, _, _, e, a_p, rf_p, szS zl, ?_⟩
  rw [cut_S' (a := p) (b := en) rfl rfl]
  refine ⟨_, v1, v2, 0, _, e, a_p, by show 2 < 1000; decide, ?_⟩
  have := q1 en hen
  rw [← rf_put (p := p)] at this
  have e2 : ((en + 1 : Nat) : Int) = (en : Int) + 1 := by simp
  rw [e2] at this
  exact this

def TTxtOk (f : SpD) : Prop := ∀ (r : Addr) (l : List Nat) (p : Nat) (G : Hd) (Q : KD) (E : XD), G r = some (.ins 0 (Rf l p)) → l.length ≤ 100000 → p ≤ l.length →
  (∀ e, numEnd l p = some e → valOf l p e + e + 1 ≤ l.length → Q (.str (S ((l.drop (e + 1)).take (valOf l p e)))) (up G r (.ins 0 (Rf l (e + 1 + valOf l p e))))) → (numEnd l p = none → E 3 [] G) →
  (∀ e, numEnd l p = some e → l.length < valOf l p e + e + 1 → E 3 [] G) → f [.ref r] G Q E
theorem p_ttxt {Γ : Nat → SpD} (hn : NumOk (Γ 15)) : TTxtOk (runD 1 3 (b_SavedReader_take_text Γ)) := by
  intro r l p G Q E e zl hp q1 q2 q3
  refine ⟨rfl, seq_at (fun σ' G' => ∃ en, numEnd l p = some en ∧ σ' = [some (.ref r), some (.int (en : Int)), none] ∧ G = G') ?_ fun nx hnx => ?_⟩
  rotate_left
  · exact ⟨0, _, 15, [], e, m_nend, rf_no (by decide) (by decide), rfl, rfl, hn r l p G _ _ e zl hp (fun en hen => hnx _ _ ⟨en, hen, rfl, rfl⟩) q2⟩
  rintro _ _ ⟨en, hen, rfl, rfl⟩
  obtain ⟨v1, v2⟩ := val_reads hen
  obtain ⟨_, _, _, hle⟩ := numEnd_le hen
  refine seq_at (fun σ' G' => σ' = [some (.ref r), some (.int (en : Int)), some (.int (valOf l p en : Int))] ∧ G = G') ?_ fun nx hnx => ?_
  rotate_left
  · refine ⟨0, _, _, e, a_t, rf_t, 0, _, _, e, a_p, rf_p, szS zl, ?_⟩
    rw [cut_S' (a := p) (b := en) rfl rfl]
    exact ⟨_, v1, v2, hnx _ _ ⟨rfl, rfl⟩⟩
  rintro _ _ ⟨rfl, rfl⟩
  refine seq_at (fun σ' G' => σ' = [some (.ref r), some (.int (en : Int)), some (.int (valOf l p en : Int))] ∧ G = G' ∧ valOf l p en + en + 1 ≤ l.length) ?_ fun nx hnx => ?_
  rotate_left
  · refine ⟨0, _, _, e, a_t, rf_t, szS zl, ?_⟩
    rw [S_len]
    exact pk_dec (fun hk => q3 en hen (by omega)) fun hk => hnx _ _ ⟨rfl, rfl, by omega⟩
  rintro _ _ ⟨rfl, rfl, hfit⟩
  refine ⟨0, _, e, a_p, by show 2 < 1000; decide, ?_⟩
  have e3 : putD "position" (.int ((en : Int) + 1 + (valOf l p en : Int))) (Rf l p) = Rf l (en + 1 + valOf l p en) := by
    rw [← rf_put (p := p)]
    push_cast
    rfl
  rw [e3]
  refine ⟨0, _, _, up_same, a_t, rf_t, szS zl, ?_⟩
  rw [cut_S' (a := en + 1) (b := en + 1 + valOf l p en) (by simp) (by push_cast; rfl)]
  rw [show en + 1 + valOf l p en - (en + 1) = valOf l p en by omega]
  exact q1 en hen hfit
def EndOk (f : SpD) : Prop := ∀ (r : Addr) (l : List Nat) (p : Nat) (G : Hd) (Q : KD) (E : XD), G r = some (.ins 0 (Rf l p)) → l.length ≤ 100000 → Q (.bl (decide (p = l.length))) G → f [.ref r] G Q E
theorem p_aend {Γ : Nat → SpD} : EndOk (runD 1 1 (b_SavedReader_at_end Γ)) := by
  intro r l p G Q E e zl q
  refine ⟨rfl, 0, _, _, e, a_p, rf_p, 0, _, _, e, a_t, rf_t, szS zl, ?_⟩
  have : decide ((p : Int) = ((S l).length : Int)) = decide (p = l.length) := by
    rw [S_len]
    congr 1
    simp only [eq_iff_iff]
    omega
  rw [← this] at q
  exact q
def IniOk (f : SpD) : Prop := ∀ (r : Addr) (l : List Nat) (G : Hd) (Q : KD) (E : XD), G r = some (.ins 0 []) → Q .non (up G r (.ins 0 (Rf l 0))) → f [.ref r, .str (S l)] G Q E
theorem p_init {Γ : Nat → SpD} : IniOk (runD 2 2 (b_SavedReader___init__ Γ)) := by
  intro r l G Q E e q
  refine ⟨rfl, 0, _, e, a_t, by show 0 < 1000; decide, ?_⟩
  refine ⟨0, _, up_same, a_p, by show 1 < 1000; decide, ?_⟩
  rw [up_up]
  exact q
/-! ### what is written -/
def num (n : Nat) : List Nat := TL.numL n ++ [59]
def WNumOk (f : SpD) : Prop := ∀ (n : Nat) (G : Hd) (Q : KD) (E : XD), n < 10 ^ 9 → Q (.str (S (num n))) G → f [.int (n : Int)] G Q E
theorem log_ok {n : Nat} (h : n < 10 ^ 9) : ((n : Int)).natAbs.log2 < 1920 := by
  show n.log2 < 1920
  by_cases h0 : n = 0
  · subst h0; decide
  · have := Nat.log2_lt h0 (k := 1920) |>.mpr (Nat.lt_trans h (by decide +kernel))
    exact this
theorem str_num (n : Nat) : (toString ((n : Nat) : Int) : Str) = S (TL.numL n) := num_S n
theorem semi : (";" : Str) = S [59] := rfl
theorem p_wnum {Γ : Nat → SpD} : WNumOk (runD 1 1 (b_write_number Γ)) := by
  intro n G Q E hn q
  have hl := TL.numL_len (k := 9) (by decide) hn
  refine ⟨rfl, log_ok hn, ?_, ?_⟩
  · rw [num_S, S_len]
    show (TL.numL n).length + 1 ≤ sizeLine
    rw [sizeLine_eq]; omega
  · rw [num_S, semi, S_cat]
    exact q
def WTxtOk (f : SpD) : Prop := ∀ (t : List Nat) (G : Hd) (Q : KD) (E : XD), t.length ≤ 1000 → Q (.str (S (num t.length ++ t))) G → f [.str (S t)] G Q E
theorem p_wtxt {Γ : Nat → SpD} (h : WNumOk (Γ 10)) : WTxtOk (runD 1 1 (b_write_text Γ)) := by
  intro t G Q E ht q
  have hl := TL.numL_len (n := t.length) (k := 9) (by decide) (by omega)
  refine ⟨rfl, by rw [S_len, sizeLine_eq]; omega, rfl, rfl, ?_⟩
  rw [S_len]
  refine h t.length G _ _ (by omega) ⟨?_, ?_⟩
  · rw [S_len, S_len, sizeLine_eq]
    unfold num
    rw [List.length_append]
    show (TL.numL t.length).length + 1 + t.length ≤ _
    omega
  · rw [S_cat]
    exact q
end K89

namespace K89
open PySem PySem.Spec PyProof.Rows L2 Y SX
local instance : Tab := tb.tab
theorem m_tnum : tb.tab.meth 0 "take_number" 0 [] = some (6, []) := by kernel_rfl
theorem m_ttxt : tb.tab.meth 0 "take_text" 0 [] = some (5, []) := by kernel_rfl
theorem m_head : tb.tab.meth 0 "take_head" 1 [] = some (8, []) := by kernel_rfl
theorem m_aend : tb.tab.meth 0 "at_end" 0 [] = some (3, []) := by kernel_rfl
theorem x_f : tb.tab.exm 3 "FirstwayError" = some true := by kernel_rfl
theorem x_s : tb.tab.exm 3 "SavedTextError" = some true := by kernel_rfl
theorem x_v : tb.tab.exm 3 "ValueError" = some true := by kernel_rfl
theorem x_c : tb.tab.exm 3 "CountError" = some false := by kernel_rfl
/-- a reading is refused -/
def Bad (l : List Nat) (p : Nat) (h : List Nat) (k : Int) : Prop := (k = 0 ∧ numEnd l p = none) ∨ (k = 1 ∧ ∀ e, numEnd l p = some e → l.length < valOf l p e + e + 1) ∨ (k = 2 ∧ (l.drop p).take h.length ≠ h)
def RefOk (f : SpD) : Prop := ∀ (r : Addr) (l h : List Nat) (p : Nat) (k : Int) (G : Hd) (Q : KD) (E : XD), G r = some (.ins 0 (Rf l p)) → l.length ≤ 100000 → h.length ≤ 100000 → p ≤ l.length → Bad l p h k → Q (.bl true) G → f [.ref r, .int k, .str (S h)] G Q E
theorem p_ref {Γ : Nat → SpD} (h1 : TNumOk (Γ 6)) (h2 : TTxtOk (Γ 5)) (h3 : HeadOk (Γ 8)) : RefOk (runD 3 4 (b__law_refused Γ)) := by
  intro r l h p k G Q E e zl zh hp hb q
  refine ⟨rfl, ?_⟩
  rcases hb with ⟨rfl, hb⟩ | ⟨rfl, hb⟩ | ⟨rfl, hb⟩
  · exact ⟨0, _, 6, [], e, m_tnum, rf_no (by decide) (by decide), rfl, rfl, h1 r l p G _ _ e zl hp (fun en hen => by rw [hb] at hen; cases hen) fun _ => .inl ⟨x_f, rfl, fun a _ => ⟨rfl, true, x_s, rfl, true, x_v, rfl, false, x_c, q⟩⟩⟩
  · exact ⟨0, _, 5, [], e, m_ttxt, rf_no (by decide) (by decide), rfl, rfl, h2 r l p G _ _ e zl hp (fun en hen hf => (by have := hb en hen; omega)) (fun _ => .inl ⟨x_f, rfl, fun a _ => ⟨rfl, true, x_s, rfl, true, x_v, rfl, false, x_c, q⟩⟩)
      fun _ _ _ => .inl ⟨x_f, rfl, fun a _ => ⟨rfl, true, x_s, rfl, true, x_v, rfl, false, x_c, q⟩⟩⟩
  · exact ⟨0, _, 8, [], e, m_head, rf_no (by decide) (by decide), rfl, rfl, h3 r l h p G _ _ e zl zh (fun z => (hb z).elim) fun _ => .inl ⟨x_f, rfl, fun a _ => ⟨rfl, true, x_s, rfl, true, x_v, rfl, false, x_c, q⟩⟩⟩
/-! ### words -/
inductive Wd where
  | n (v : Nat)
  | t (l : List Nat)
def Wd.d : Wd → D
  | .n v => .int (v : Int)
  | .t l => .str (S l)
def Wd.w : Wd → List Nat
  | .n v => num v
  | .t l => num l.length ++ l
def Wd.ok : Wd → Prop
  | .n v => v < 10 ^ 9
  | .t l => l.length ≤ 20
def WrtOk (f : SpD) : Prop := ∀ (x : Wd) (G : Hd) (Q : KD) (E : XD), x.ok → Q (.str (S x.w)) G → f [x.d] G Q E
theorem p_wrt {Γ : Nat → SpD} : WrtOk (runD 1 1 (b__law_written Γ)) := by
  intro x G Q E hx q
  refine ⟨rfl, ?_⟩
  cases x with
  | n v =>
    have hl := TL.numL_len (k := 9) (by decide) hx
    refine ⟨log_ok hx, ?_, ?_⟩
    · rw [num_S, S_len, sizeLine_eq]
      show (TL.numL v).length + 1 ≤ _
      omega
    · rw [num_S, semi, S_cat]
      exact q
  | t l =>
    have hx : l.length ≤ 20 := hx
    have hl := TL.numL_len (n := l.length) (k := 9) (by decide) (by omega)
    refine ⟨by rw [S_len, sizeLine_eq]; omega, by rw [S_len]; exact log_ok (by omega), ?_, ?_, ?_⟩
    · rw [S_len, num_S, S_len, sizeLine_eq]
      show (TL.numL l.length).length + 1 ≤ _
      omega
    · rw [S_len, num_S, semi, S_cat, sizeLine_eq]
      have e1 := S_len (TL.numL l.length ++ [59])
      have e2 : (TL.numL l.length ++ [59]).length = (TL.numL l.length).length + 1 := by simp
      show (S (TL.numL l.length ++ [59])).length + l.length ≤ _
      omega
    · rw [S_len, num_S, semi, S_cat, S_cat]
      exact q
/-- all that stood but the state stands -/
def Ext0 (G G' : Hd) (s : Addr) : Prop := ∀ a o, a ≠ s → G a = some o → G' a = some o
def TxtOk (f : SpD) (B : Nat) : Prop := ∀ (ns : List Int) (m : Nat) (s : Addr) (G : Hd) (Q : KD) (E : XD), Stt G s → m ≤ B → (∀ (l : List Nat) (G' : Hd), l.length ≤ m → Stt G' s → Ext0 G G' s → Q (.str (S l)) G') → f [.rol (ns.map D.int), .ref s, .int (m : Int)] G Q E

/-- one sign of many, gathered -/
theorem gatherS {one : D → Hd → (Hd → Prop) → Prop} {fin : Hd → Prop} {p s : Addr} {m : Nat} {G0 G : Hd} (hp : G p = none) (hs : Stt G s) (hx : Ext0 G0 G s) (hm : m ≤ 100000)
    (hstep : ∀ j G' acc k, Stt G' s → Ext0 G0 G' s → G' p = some (.lst acc) → acc.length < sizeLine → p ≠ s → (∀ (c : Nat) G'', Stt G'' s → (∀ a, a ≠ s → G'' a = G' a) → k (up G'' p (.lst (acc ++ [.str (S [c])])))) → one (.int j) G' k)
    (hfin : ∀ (l : List Nat) G', l.length = m → Stt G' s → Ext0 G0 G' s → G' p = some (.lst (l.map fun c => D.str (S [c]))) → fin G') : lcLoop (fun _ => True) one fin (intsD 0 m) (up G p (.lst [])) := by
  have ne : p ≠ s := fun e => by
    obtain ⟨n, k, r, e1⟩ := hs
    rw [← e, hp] at e1
    cases e1
  have st : ∀ {G' : Hd} {ys : List D}, Stt G' s → Stt (up G' p (.lst ys)) s := fun ⟨n, k, r, e⟩ => ⟨n, k, r, by rw [up_ne (Ne.symm ne)]; exact e⟩
  have np : ∀ a o, a ≠ s → G0 a = some o → a ≠ p := fun a o h e z => by
    have := hx a o h e
    rw [z, hp] at this
    cases this
  have ex : ∀ {G' : Hd} {ys : List D}, Ext0 G0 G' s → Ext0 G0 (up G' p (.lst ys)) s := fun h a o h1 h2 => by rw [up_ne (np a o h1 h2)]; exact h a o h1 h2
  refine lc_rng (fun j G' => ∃ l : List Nat, (l.length : Int) = j ∧ Stt G' s ∧ Ext0 G0 G' s ∧ G' p = some (.lst (l.map fun c => D.str (S [c])))) (hi := m) (by simp) ⟨[], rfl, st hs, ex hx, up_same⟩
    (fun G' ⟨l, e, h1, h2, h3⟩ => hfin l G' (by omega) h1 h2 h3) ?_
  rintro j G' k h0 h1 ⟨l, e, a1, a2, a3⟩ hk
  refine hstep j G' _ k a1 a2 a3 (by rw [List.length_map, sizeLine_eq]; omega) ne fun c G'' b1 b2 => hk _ ⟨l ++ [c], by simp; omega, st b1, ex fun a o h2 h3 => by rw [b2 a h2]; exact a2 a o h2 h3, ?_⟩
  rw [up_same]; simp
end K89

namespace K89
open PySem PySem.Spec PyProof.Rows L2 Y SX
local instance : Tab := tb.tab
theorem joinL_one : ∀ l : List Nat, TL.joinL [] (l.map fun c => [c]) = l
  | [] => rfl
  | [c] => rfl
  | c :: d :: r => by
    show [c] ++ ([] ++ TL.joinL [] ((d :: r).map fun c => [c])) = _
    rw [joinL_one (d :: r)]
    rfl
theorem stt_ne {G : Hd} {s p : Addr} (h : Stt G s) (hp : G p = none) : p ≠ s := fun e => by
  obtain ⟨n, k, r, e1⟩ := h
  rw [← e, hp] at e1
  cases e1
theorem stt_up {G : Hd} {s p : Addr} {o : O} (h : Stt G s) (hp : p ≠ s) : Stt (up G p o) s := by
  obtain ⟨n, k, r, e⟩ := h
  exact ⟨n, k, r, by rw [up_ne (Ne.symm hp)]; exact e⟩
theorem ext0_refl (G : Hd) (s : Addr) : Ext0 G G s := fun _ _ _ h => h
theorem ext0_up {G G' : Hd} {s p : Addr} {o : O} (h : Ext0 G G' s) (hp : G' p = none) : Ext0 G (up G' p o) s := fun a u ha e => by
  have e1 := h a u ha e
  rw [up_ne (ne_no e1 hp)]
  exact e1
theorem ext0_fr {G G' G2 : Hd} {s : Addr} (h : Ext0 G G' s) (fr : ∀ a, a ≠ s → G2 a = G' a) : Ext0 G G2 s := fun a u ha e => by
  rw [fr a ha]
  exact h a u ha e
theorem ext0_tr {G G' G2 : Hd} {s : Addr} (h : Ext0 G G' s) (h2 : Ext0 G' G2 s) : Ext0 G G2 s := fun a u ha e => h2 a u ha (h a u ha e)
/-- a text with signs in it, not too many -/
def Sg (d : D) : Prop := ∃ l : List Nat, d = .str (S l) ∧ 0 < l.length ∧ l.length ≤ 1000
theorem sg_of {x : Str} (h : (decide (0 < x.cps.toList.length) && decide (x.cps.toList.length ≤ 1000)) = true) : Sg (.str x) := by
  obtain ⟨h1, h2⟩ := He.ba h
  exact ⟨x.cps.toList, by rw [S_tl], of_decide_eq_true h1, of_decide_eq_true h2⟩
theorem sg_all : ∀ d ∈ [D.str "ab", .str "abc", .str "aab", .str "abA_ 1\n-", .str "ab\n", .str ((" !\"#$&'()*+,-./0123456789:;<=>?@ABCDEFGHIJKLMNOPQRSTUVWXYZ[\\]^_`" : Str) ++ ("abcdefghijklmnopqrstuvwxyz{|}~\n\t" : Str))], Sg d := by
  intro d h
  simp only [List.mem_cons, List.not_mem_nil, or_false] at h
  rcases h with rfl | rfl | rfl | rfl | rfl | rfl <;> exact sg_of (by decide +kernel)
theorem p_text {Γ : Nat → SpD} (hd : DigOk (Γ 12)) : TxtOk (runD 3 6 (b__law_text Γ)) 1000 := by
  intro ns m s G Q E hs hm q
  refine ⟨rfl, ?_⟩
  refine seq_at (fun σ' G' => σ' = [some (.rol (ns.map D.int)), some (.ref s), some (.int (m : Int)), some (.str " !\"#$&'()*+,-./0123456789:;<=>?@ABCDEFGHIJKLMNOPQRSTUVWXYZ[\\]^_`"), none, none] ∧ G = G') ?_ fun nx hn => hn _ _ ⟨rfl, rfl⟩
  rintro _ _ ⟨rfl, rfl⟩
  refine seq_at (fun σ' G' => σ' = [some (.rol (ns.map D.int)), some (.ref s), some (.int (m : Int)), some (.str ((" !\"#$&'()*+,-./0123456789:;<=>?@ABCDEFGHIJKLMNOPQRSTUVWXYZ[\\]^_`" : Str) ++ ("abcdefghijklmnopqrstuvwxyz{|}~\n\t" : Str))), none, none] ∧ G = G') ?_ fun nx hn => ⟨by decide +kernel, hn _ _ ⟨rfl, rfl⟩⟩
  rintro _ _ ⟨rfl, rfl⟩
  refine seq_at (fun σ' G' => ∃ l : List Nat, 0 < l.length ∧ l.length ≤ 1000 ∧ σ' = [some (.rol (ns.map D.int)), some (.ref s), some (.int (m : Int)), some (.str (S l)), none, none] ∧ Stt G' s ∧ Ext0 G G' s) ?_ fun nx hn => ?_
  rotate_left
  · refine ⟨by show 6 ≤ sizeLine; decide, fun p hp => ?_⟩
    have ne := stt_ne hs hp
    refine ⟨rfl, rfl, hd ns 6 s _ _ _ (stt_up hs ne) (by decide) (by decide) fun d G1 hlt hs1 fr => ?_⟩
    have e1 := fr p ne
    rw [up_same] at e1
    have hl : d < [D.str "ab", .str "abc", .str "aab", .str "abA_ 1\n-", .str "ab\n", .str ((" !\"#$&'()*+,-./0123456789:;<=>?@ABCDEFGHIJKLMNOPQRSTUVWXYZ[\\]^_`" : Str) ++ ("abcdefghijklmnopqrstuvwxyz{|}~\n\t" : Str))].length := hlt
    have e2 := List.getElem?_eq_getElem hl
    obtain ⟨l, h1, h2, h3⟩ := sg_all _ (List.mem_of_getElem? e2)
    refine ⟨_, _, e1, atI_k e2, ?_⟩
    rw [h1]
    exact hn _ _ ⟨l, h2, h3, rfl, hs1, ext0_fr (ext0_up (ext0_refl G s) hp) fr⟩
  rintro _ G1 ⟨l, hl1, hl2, rfl, hs1, x1⟩
  refine seq_at (fun σ' G' => ∃ z : Nat, z ≤ m ∧ σ' = [some (.rol (ns.map D.int)), some (.ref s), some (.int (m : Int)), some (.str (S l)), some (.int (z : Int)), none] ∧ Stt G' s ∧ Ext0 G G' s) ?_ fun nx hn => ?_
  rotate_left
  · have key : ∀ (i : Int), i = ((m + 1 : Nat) : Int) → ∀ (G : Hd) (Q : KD) (E : XD), Stt G s → (∀ (d : Nat) (G' : Hd), d ≤ m → Stt G' s → (∀ a, a ≠ s → G' a = G a) → Q (.int d) G') → Γ 12 [.rol (ns.map D.int), .ref s, .int i] G Q E := by
      rintro i rfl G Q E h1 h2
      exact hd ns (m + 1) s G Q E h1 (by omega) (by omega) fun d G' a b c => h2 d G' (by omega) b c
    refine ⟨rfl, rfl, key _ (by simp) G1 _ _ hs1 fun a G2 la hs2 f2 => ⟨rfl, rfl, key _ (by simp) G2 _ _ hs2 fun b G3 lb hs3 f3 => ?_⟩⟩
    have x3 : Ext0 G G3 s := ext0_fr (ext0_fr x1 f2) f3
    by_cases h : (b : Int) > (a : Int)
    · have e : (if (b : Int) > (a : Int) then (b : Int) else (a : Int)) = (b : Int) := if_pos h
      have := hn _ _ ⟨b, lb, rfl, hs3, x3⟩
      rw [← e] at this
      exact this
    · have e : (if (b : Int) > (a : Int) then (b : Int) else (a : Int)) = (a : Int) := if_neg h
      have := hn _ _ ⟨a, la, rfl, hs3, x3⟩
      rw [← e] at this
      exact this
  rintro _ G2 ⟨z, hz, rfl, hs2, x2⟩
  refine ⟨trivial, by omega, by omega, fun p hp => gatherS (G0 := G) hp hs2 x2 (by omega) (fun j G' acc kk a1 a2 a3 a4 ne hkk => ?_) fun w G3 hw hs3 x3 e3 => ?_⟩
  · refine ⟨by rw [S_len, sizeLine_eq]; omega, rfl, rfl, ?_⟩
    rw [S_len]
    refine hd ns l.length s G' _ _ a1 hl1 (by omega) fun d G'' hlt b1 b2 => ⟨by rw [S_len, sizeLine_eq]; omega, l[d], at_S (by simp [hlt]), acc, by rw [b2 _ ne]; exact a3, a4, hkk _ G'' b1 b2⟩
  · refine ⟨w.map fun c => S [c], by rw [List.map_map]; exact e3, ?_, ?_⟩
    · have e1 : ((w.map fun c => S [c]).map (·.length)).sum = w.length := by
        clear hw e3
        induction w with
        | nil => rfl
        | cons c r ih =>
          simp only [List.map_cons, List.sum_cons, ih, S_len, List.length_cons, List.length_nil]
          omega
      rw [e1, List.length_map]
      have : (("" : Str)).length = 0 := rfl
      rw [this]
      omega
    · have e2 : (w.map fun c => S [c]) = (w.map fun c => [c]).map S := by rw [List.map_map]; rfl
      rw [show (("" : Str)) = S [] from rfl, e2, join_S, joinL_one]
      exact q w G3 (by omega) hs3 x3
end K89

namespace K89
open PySem PySem.Spec PyProof.Rows L2 Y SX
local instance : Tab := tb.tab
def WdOk (f : SpD) : Prop := ∀ (ns : List Int) (s : Addr) (G : Hd) (Q : KD) (E : XD), Stt G s → (∀ (x : Wd) (G' : Hd), x.ok → Stt G' s → Ext0 G G' s → Q x.d G') → f [.rol (ns.map D.int), .ref s] G Q E
theorem ints_all : ∀ d ∈ [D.int 0, .int 9, .int 10, .int 99999999, .int 100000000, .int 999999999], ∃ x : Wd, x.ok ∧ d = x.d := by
  intro d h
  simp only [List.mem_cons, List.not_mem_nil, or_false] at h
  rcases h with rfl | rfl | rfl | rfl | rfl | rfl
  · exact ⟨.n 0, by show 0 < 10 ^ 9; decide, rfl⟩
  · exact ⟨.n 9, by show 9 < 10 ^ 9; decide, rfl⟩
  · exact ⟨.n 10, by show 10 < 10 ^ 9; decide, rfl⟩
  · exact ⟨.n 99999999, by show 99999999 < 10 ^ 9; decide, rfl⟩
  · exact ⟨.n 100000000, by show 100000000 < 10 ^ 9; decide, rfl⟩
  · exact ⟨.n 999999999, by show 999999999 < 10 ^ 9; decide, rfl⟩
theorem txt_wd {x : Str} (h : decide (x.cps.toList.length ≤ 20) = true) : ∃ y : Wd, y.ok ∧ D.str x = y.d := ⟨.t x.cps.toList, by show x.cps.toList.length ≤ 20; exact of_decide_eq_true h, by show D.str x = .str (S _); rw [S_tl]⟩
theorem txts_all : ∀ d ∈ [D.str "", .str "3;", .str "3;abc", .str "0;0;", .str ";", .str "\n", .str "12"], ∃ x : Wd, x.ok ∧ d = x.d := by
  intro d h
  simp only [List.mem_cons, List.not_mem_nil, or_false] at h
  rcases h with rfl | rfl | rfl | rfl | rfl | rfl | rfl <;> exact txt_wd (by decide +kernel)
theorem p_word {Γ : Nat → SpD} (hd : DigOk (Γ 12)) (ht : TxtOk (Γ 14) 1000) : WdOk (runD 2 3 (b__law_word Γ)) := by
  intro ns s G Q E hs q
  refine ⟨rfl, seq_at (fun σ' G' => ∃ k : Nat, k < 6 ∧ σ' = [some (.rol (ns.map D.int)), some (.ref s), some (.int (k : Int))] ∧ Stt G' s ∧ Ext0 G G' s) ?_ fun nx hn => ?_⟩
  rotate_left
  · exact ⟨rfl, rfl, hd ns 6 s G _ _ hs (by decide) (by decide) fun d G1 hlt hs1 fr => hn _ _ ⟨d, hlt, rfl, hs1, ext0_fr (ext0_refl G s) fr⟩⟩
  rintro _ G1 ⟨k, hk, rfl, hs1, x1⟩
  refine seq_at (fun σ' G' => σ' = [some (.rol (ns.map D.int)), some (.ref s), some (.int (k : Int))] ∧ G1 = G') ?_ fun nx hn => ?_
  rotate_left
  · refine pk_dec (fun h2 => ?_) fun _ => hn _ _ ⟨rfl, rfl⟩
    refine ⟨rfl, rfl, hd ns 10 s G1 _ _ hs1 (by decide) (by decide) fun a G2 la hs2 f2 => ?_⟩
    refine ⟨⟨by decide, by decide, by decide⟩, rfl, rfl, hd ns 1000000000 s G2 _ _ hs2 (by decide) (by decide) fun b G3 lb hs3 f3 => ?_⟩
    refine ⟨by show 2 ≤ sizeLine; decide, fun p hp => ?_⟩
    have ne := stt_ne hs3 hp
    have x3 : Ext0 G (up G3 p (.lst [.int (a : Int), .int (b : Int)])) s := ext0_up (ext0_fr (ext0_fr x1 f2) f3) hp
    have hk2 : k < 2 := by omega
    rcases (show k = 0 ∨ k = 1 by omega) with rfl | rfl
    · exact ⟨_, _, up_same, atI0, q (.n a) _ (by show a < 10 ^ 9; omega) (stt_up hs3 ne) x3⟩
    · exact ⟨_, _, up_same, atI1, q (.n b) _ (by show b < 10 ^ 9; omega) (stt_up hs3 ne) x3⟩
  rintro _ _ ⟨rfl, rfl⟩
  refine seq_at (fun σ' G' => σ' = [some (.rol (ns.map D.int)), some (.ref s), some (.int (k : Int))] ∧ G1 = G') ?_ fun nx hn => ?_
  rotate_left
  · refine pk_dec (fun h2 => ?_) fun _ => hn _ _ ⟨rfl, rfl⟩
    refine ⟨by show 6 ≤ sizeLine; decide, fun p hp => ?_⟩
    have ne := stt_ne hs1 hp
    refine ⟨rfl, rfl, hd ns 6 s _ _ _ (stt_up hs1 ne) (by decide) (by decide) fun d G2 hlt hs2 fr => ?_⟩
    have e1 := fr p ne
    rw [up_same] at e1
    have hl : d < [D.int 0, .int 9, .int 10, .int 99999999, .int 100000000, .int 999999999].length := hlt
    have e2 := List.getElem?_eq_getElem hl
    obtain ⟨x, h1, h3⟩ := ints_all _ (List.mem_of_getElem? e2)
    refine ⟨_, _, e1, atI_k e2, ?_⟩
    rw [h3]
    exact q x G2 h1 hs2 (ext0_fr (ext0_up x1 hp) fr)
  rintro _ _ ⟨rfl, rfl⟩
  refine seq_at (fun σ' G' => σ' = [some (.rol (ns.map D.int)), some (.ref s), some (.int (k : Int))] ∧ G1 = G') ?_ fun nx hn => ?_
  rotate_left
  · refine pk_dec (fun h2 => ?_) fun _ => hn _ _ ⟨rfl, rfl⟩
    refine ⟨by show 7 ≤ sizeLine; decide, fun p hp => ?_⟩
    have ne := stt_ne hs1 hp
    refine ⟨rfl, rfl, hd ns 7 s _ _ _ (stt_up hs1 ne) (by decide) (by decide) fun d G2 hlt hs2 fr => ?_⟩
    have e1 := fr p ne
    rw [up_same] at e1
    have hl : d < [D.str "", .str "3;", .str "3;abc", .str "0;0;", .str ";", .str "\n", .str "12"].length := hlt
    have e2 := List.getElem?_eq_getElem hl
    obtain ⟨x, h1, h3⟩ := txts_all _ (List.mem_of_getElem? e2)
    refine ⟨_, _, e1, atI_k e2, ?_⟩
    rw [h3]
    exact q x G2 h1 hs2 (ext0_fr (ext0_up x1 hp) fr)
  rintro _ _ ⟨rfl, rfl⟩
  exact ⟨rfl, rfl, ht ns 12 s G1 _ _ hs1 (by decide) fun l G2 hl hs2 x2 => q (.t l) G2 (by show l.length ≤ 20; omega) hs2 (ext0_tr x1 x2)⟩
/-! ### numbers read -/
theorem numEnd_num {l rest : List Nat} {p n : Nat} (h : l.drop p = num n ++ rest) (hn : n < 10 ^ 9) : numEnd l p = some (p + (TL.numL n).length) ∧ valOf l p (p + (TL.numL n).length) = n := by
  have hl := TL.numL_len (k := 9) (by decide) hn
  have hne := TL.numL_ne n
  have hpos : 0 < (TL.numL n).length := List.length_pos_iff.mpr hne
  have h' : l.drop p = TL.numL n ++ (59 :: rest) := by rw [h]; unfold num; simp
  have hd : digs (l.drop p) = (TL.numL n).length := by
    rw [h']
    exact digs_app (fun c hc => dig_num hc) fun c hc => by cases hc; rfl
  have e2 : l.drop (p + (TL.numL n).length) = 59 :: rest := by
    rw [← List.drop_drop, h', List.drop_left]
  refine ⟨?_, ?_⟩
  · unfold numEnd
    rw [hd, if_neg, if_pos (by rw [e2]; rfl)]
    rintro (h1 | h1 | ⟨h1, h2⟩)
    · omega
    · omega
    · have h3 : l[p]? = (TL.numL n).head? := by
        rw [← List.head?_drop, h']
        cases e : TL.numL n with
        | nil => exact absurd e hne
        | cons c r => rfl
      by_cases h0 : n = 0
      · subst h0
        have : (TL.numL 0).length = 1 := by rw [TL.numL_lt (by decide)]; rfl
        omega
      · exact num_head h0 (by rw [← h3]; exact h2)
  · unfold valOf
    rw [Nat.add_sub_cancel_left, h', List.take_left, TL.numL_val]
theorem numEnd_end {l : List Nat} {p : Nat} (h : l.drop p = []) : numEnd l p = none := by
  unfold numEnd
  rw [h, if_pos (.inl rfl)]
/-- gathered, all that stood but the state stands -/
theorem gatherA {α : Type} {f : α → D} {A : α → Prop} {one : D → Hd → (Hd → Prop) → Prop} {fin : Hd → Prop} {p s : Addr} {m : Nat} {G0 G : Hd} (hp : G p = none) (hs : Stt G s) (hx : Ext0 G0 G s) (hm : m ≤ 100000)
    (hstep : ∀ j G' acc k, Stt G' s → G' p = some (.lst acc) → acc.length < sizeLine → p ≠ s → (∀ (c : α) G'', A c → Stt G'' s → Ext0 G' G'' s → k (up G'' p (.lst (acc ++ [f c])))) → one (.int j) G' k)
    (hfin : ∀ (l : List α) G', l.length = m → (∀ x ∈ l, A x) → Stt G' s → Ext0 G0 G' s → G' p = some (.lst (l.map f)) → fin G') : lcLoop (fun _ => True) one fin (intsD 0 m) (up G p (.lst [])) := by
  have ne := stt_ne hs hp
  have np : ∀ a o, a ≠ s → G0 a = some o → a ≠ p := fun a o h e z => by
    have := hx a o h e
    rw [z, hp] at this
    cases this
  have ex : ∀ {G' : Hd} {ys : List D}, Ext0 G0 G' s → Ext0 G0 (up G' p (.lst ys)) s := fun h a o h1 h2 => by rw [up_ne (np a o h1 h2)]; exact h a o h1 h2
  refine lc_rng (fun j G' => ∃ l : List α, (l.length : Int) = j ∧ (∀ x ∈ l, A x) ∧ Stt G' s ∧ Ext0 G0 G' s ∧ G' p = some (.lst (l.map f))) (hi := m) (by simp) ⟨[], rfl, (fun x h => nomatch h), stt_up hs ne, ex hx, up_same⟩
    (fun G' ⟨l, e, h0, h1, h2, h3⟩ => hfin l G' (by omega) h0 h1 h2 h3) ?_
  rintro j G' k h0 h1 ⟨l, e, a0, a1, a2, a3⟩ hk
  refine hstep j G' _ k a1 a3 (by rw [List.length_map, sizeLine_eq]; omega) ne fun c G'' b0 b1 b2 => hk _ ⟨l ++ [c], by simp; omega, fun y hy => ?_, stt_up b1 ne, ex (ext0_tr a2 b2), ?_⟩
  · rcases List.mem_append.mp hy with hy | hy
    · exact a0 y hy
    · rw [List.mem_singleton.mp hy]; exact b0
  · rw [up_same]; simp
/-! ### the constants that are no words -/
def Wg (d : D) : Prop := ∃ l : List Nat, d = .str (S l) ∧ l.length ≤ 100 ∧ numEnd (120 :: l) 1 = none
theorem wg_of {x : Str} (h : (decide (x.cps.toList.length ≤ 100) && decide (numEnd (120 :: x.cps.toList) 1 = none)) = true) : Wg (.str x) := by
  obtain ⟨h1, h2⟩ := He.ba h
  exact ⟨x.cps.toList, by rw [S_tl], of_decide_eq_true h1, of_decide_eq_true h2⟩
def wgs : List D := [.str "", .str ";", .str "-1;", .str "+1;", .str "01;", .str "00;", .str "1000000000;", .str "12", .str "1 ;", .str " 1;", .str "a;", .str "1:", .str (Txt.mul "9" 40 ++ (";" : Str))]
theorem wg_all : ∀ d ∈ wgs, Wg d := by
  intro d h
  unfold wgs at h
  simp only [List.mem_cons, List.not_mem_nil, or_false] at h
  rcases h with rfl | rfl | rfl | rfl | rfl | rfl | rfl | rfl | rfl | rfl | rfl | rfl | rfl <;> exact wg_of (by decide +kernel)
def MkOk (Γ : Nat → SpD) : Prop := IniOk (Γ 9)
theorem mk_reader {Γ : Nat → SpD} (h : MkOk Γ) {l : List Nat} {G : Hd} {Q : KD} {E : XD} (q : ∀ r, G r = none → Q (.ref r) (up G r (.ins 0 (Rf l 0)))) : spMake (Γ 9) 0 [.str (S l)] G Q E := by
  intro r hr
  refine h r l _ _ _ up_same ?_
  show Q (.ref r) (up (up G r (.ins 0 [])) r (.ins 0 (Rf l 0)))
  rw [up_up]
  exact q r hr
end K89

namespace K89
open PySem PySem.Spec PyProof.Rows L2 Y SX
local instance : Tab := tb.tab
theorem ones : ∀ z : Fin 9, MulOk "1" (z.val : Int) ∧ Txt.mul "1" (z.val : Int) = S (List.replicate z.val 49) := by unfold MulOk; decide +kernel
theorem emp : ("" : Str) = S [] := rfl
def WrgOk (f : SpD) : Prop := ∀ (ns : List Int) (s : Addr) (G : Hd) (Q : KD) (E : XD), Stt G s → (∀ G', Q (.bl true) G') → f [.rol (ns.map D.int), .ref s] G Q E
theorem p_wrong {Γ : Nat → SpD} (hd : DigOk (Γ 12)) (hm : MkOk Γ) (hh : HeadOk (Γ 8)) (hr : RefOk (Γ 2)) (he : EndOk (Γ 3)) (htn : TNumOk (Γ 6)) (hsm : SameOk (Γ 4) 1) : WrgOk (runD 2 7 (b__law_wrong Γ)) := by
  intro ns s G Q E hs q
  refine ⟨rfl, seq_at (fun σ' G' => ∃ p, p ≠ s ∧ σ' = [some (.rol (ns.map D.int)), some (.ref s), some (.ref p), none, none, none, none] ∧ Stt G' s ∧ G' p = some (.lst wgs)) ?_ fun nx hn => ?_⟩
  rotate_left
  · refine ⟨by unfold MulOk; decide +kernel, by decide +kernel, by show 13 ≤ sizeLine; decide, fun p hp => ?_⟩
    have ne := stt_ne hs hp
    exact hn _ _ ⟨p, ne, rfl, stt_up hs ne, up_same⟩
  rintro _ G1 ⟨p, ne, rfl, hs1, e1⟩
  refine seq_at (fun σ' G' => Stt G' s ∧ ∃ a b c d e, σ' = [some (.rol (ns.map D.int)), some (.ref s), a, b, c, d, e]) ?_ fun nx hn => ?_
  rotate_left
  · refine ⟨wgs, e1, for_live (fun _ σ G' => Stt G' s ∧ G' p = some (.lst wgs) ∧ ∃ b c d e, σ = [some (.rol (ns.map D.int)), some (.ref s), some (.ref p), b, c, d, e]) ⟨hs1, e1, _, _, _, _, rfl⟩ (fun _ _ _ h => h.2.1) (fun σ G' ⟨h1, h2, b, c, d, e, h3⟩ => hn _ _ ⟨h1, _, _, _, _, _, h3⟩) ?_⟩
    rintro j d0 _ G2 kk hj ⟨hs2, e2, b, c, d, e, rfl⟩ hk
    obtain ⟨l, rfl, zl, hbad⟩ := wg_all d0 (List.mem_of_getElem? hj)
    refine ⟨by decide, by decide, for_rng (fun _ σ G' => Stt G' s ∧ G' p = some (.lst wgs) ∧ ∃ c d e, σ = [some (.rol (ns.map D.int)), some (.ref s), some (.ref p), some (.str (S l)), c, d, e]) (hi := 2) rfl ⟨hs2, e2, _, _, _, rfl⟩ (fun σ G' ⟨h1, h2, c, d, e, h3⟩ => hk _ _ ⟨h1, h2, _, _, _, _, h3⟩) ?_⟩
    rintro kind _ G3 k3 b0 b1 ⟨hs3, e3, c, d, e, rfl⟩ hk3
    have zl2 : (120 :: l).length ≤ 100000 := by simp; omega
    refine seq_at (fun σ' G' => ∃ r, r ≠ s ∧ r ≠ p ∧ σ' = [some (.rol (ns.map D.int)), some (.ref s), some (.ref p), some (.str (S l)), some (.int kind), some (.ref r), e] ∧ Stt G' s ∧ G' p = some (.lst wgs) ∧ G' r = some (.ins 0 (Rf (120 :: l) 0))) ?_ fun nx hn3 => ?_
    rotate_left
    · refine ⟨?_, rfl, rfl, ?_⟩
      · rw [S_len, sizeLine_eq]
        show 1 + l.length ≤ _
        omega
      · rw [show (("x" : Str)) = S [120] from rfl, S_cat]
        refine mk_reader hm fun r hrn => hn3 _ _ ⟨r, stt_ne hs3 hrn, fun z => ?_, rfl, stt_up hs3 (stt_ne hs3 hrn), ?_, up_same⟩
        · rw [z, e3] at hrn; cases hrn
        · rw [up_ne (ne_no e3 hrn)]; exact e3
    rintro _ G4 ⟨r, rs, rp, rfl, hs4, e4, er4⟩
    refine seq_at (fun σ' G' => σ' = [some (.rol (ns.map D.int)), some (.ref s), some (.ref p), some (.str (S l)), some (.int kind), some (.ref r), e] ∧ Stt G' s ∧ G' p = some (.lst wgs) ∧ G' r = some (.ins 0 (Rf (120 :: l) 1))) ?_ fun nx hn4 => ?_
    rotate_left
    · refine ⟨0, _, 8, [], er4, m_head, rf_no (by decide) (by decide), rfl, rfl, ?_⟩
      exact hh r (120 :: l) [120] 0 G4 _ _ er4 zl2 (by decide) (fun _ => hn4 _ _ ⟨rfl, stt_up hs4 rs, by rw [up_ne (Ne.symm rp)]; exact e4, up_same⟩) fun z => (z rfl).elim
    rintro _ G5 ⟨rfl, hs5, e5, er5⟩
    refine seq_at (fun σ' G' => σ' = [some (.rol (ns.map D.int)), some (.ref s), some (.ref p), some (.str (S l)), some (.int kind), some (.ref r), e] ∧ G5 = G') ?_ fun nx hn5 => ?_
    rotate_left
    · refine ⟨rfl, rfl, hr r (120 :: l) [] 1 kind G5 _ _ er5 zl2 (by decide) (by simp) ?_ (hn5 _ _ ⟨rfl, rfl⟩)⟩
      rcases (show kind = 0 ∨ kind = 1 by omega) with rfl | rfl
      · exact .inl ⟨rfl, hbad⟩
      · exact .inr (.inl ⟨rfl, fun e h => by rw [hbad] at h; cases h⟩)
    rintro _ _ ⟨rfl, rfl⟩
    refine ⟨0, _, 8, [], er5, m_head, rf_no (by decide) (by decide), rfl, rfl, ?_⟩
    refine hh r (120 :: l) l 1 G5 _ _ er5 zl2 (by omega) (fun _ => ?_) fun z => (z (by simp)).elim
    refine ⟨0, _, 3, [], up_same, m_aend, rf_no (by decide) (by decide), rfl, rfl, ?_⟩
    refine he r (120 :: l) (1 + l.length) _ _ _ up_same zl2 ?_
    rw [show decide (1 + l.length = (120 :: l).length) = true by simp; omega]
    exact hk3 _ _ ⟨stt_up hs5 rs, by rw [up_ne (Ne.symm rp)]; exact e5, _, _, _, rfl⟩
  rintro _ G2 ⟨hs2, a, b, c, d, e, rfl⟩
  refine seq_at (fun σ' G' => ∃ z : Nat, z < 9 ∧ Stt G' s ∧ σ' = [some (.rol (ns.map D.int)), some (.ref s), a, b, c, d, some (.int (z : Int))]) ?_ fun nx hn => ?_
  rotate_left
  · exact ⟨rfl, rfl, hd ns 9 s G2 _ _ hs2 (by decide) (by decide) fun z G3 hz hs3 _ => hn _ _ ⟨z, hz, hs3, rfl⟩⟩
  rintro _ G3 ⟨z, hz, hs3, rfl⟩
  have hl9 := TL.numL_len (n := z + 1) (k := 9) (by decide) (by omega)
  refine seq_at (fun σ' G' => ∃ r, G' r = some (.ins 0 (Rf (num (z + 1) ++ List.replicate z 49) 0)) ∧ σ' = [some (.rol (ns.map D.int)), some (.ref s), a, b, c, some (.ref r), some (.int (z : Int))]) ?_ fun nx hn => ?_
  rotate_left
  · have ez : ((z : Int) + 1) = ((z + 1 : Nat) : Int) := by simp
    obtain ⟨o1, o2⟩ := ones ⟨z, hz⟩
    have goal : ∀ (i : Int), i = ((z + 1 : Nat) : Int) → oStr [.int i] G3 (fun x G1 => oAdd x (.str ";") G1 fun x G1 => MulOk "1" (z : Int) ∧ oAdd x (.str (Txt.mul "1" (z : Int))) G1 fun x G1 => [x].length = 1 ∧ ([] : List D).length = 0 ∧ spMake (Γ 9) 0 ([x] ++ ([] ++ [])) G1 (fun x G1 => nx [some (.rol (ns.map D.int)), some (.ref s), a, b, c, some x, some (.int (z : Int))] G1) (fun _ _ _ => E 0 [] G3)) → True := fun _ _ _ => trivial
    refine ⟨by rw [ez]; exact log_ok (by omega), ?_, o1, ?_, rfl, rfl, ?_⟩
    · rw [ez, num_S, S_len, sizeLine_eq]
      show (TL.numL (z + 1)).length + 1 ≤ _
      omega
    · rw [o2, ez, num_S, semi, S_cat, S_len, S_len, sizeLine_eq]
      simp
      omega
    · rw [o2, ez, num_S, semi, S_cat, S_cat]
      exact mk_reader hm fun r hrn => hn _ _ ⟨r, up_same, rfl⟩
  rintro _ G4 ⟨r, er, rfl⟩
  have zl : (num (z + 1) ++ List.replicate z 49).length ≤ 100000 := by
    unfold num
    simp
    omega
  obtain ⟨n1, n2⟩ := numEnd_num (l := num (z + 1) ++ List.replicate z 49) (p := 0) (n := z + 1) rfl (by omega)
  have n2' : ∀ e, numEnd (num (z + 1) ++ List.replicate z 49) 0 = some e → e = (TL.numL (z + 1)).length ∧ valOf (num (z + 1) ++ List.replicate z 49) 0 e = z + 1 := fun e h => by
    rw [n1] at h
    cases h
    exact ⟨by omega, n2⟩
  refine ⟨rfl, rfl, hr r _ [] 0 1 G4 _ _ er zl (by decide) (Nat.zero_le _) (.inr (.inl ⟨rfl, fun e h => ?_⟩)) ?_⟩
  · obtain ⟨h1, h2⟩ := n2' e h
    rw [h2, h1]
    unfold num
    simp
    omega
  · refine ⟨0, _, 6, [], er, m_tnum, rf_no (by decide) (by decide), rfl, rfl, ?_⟩
    refine htn r _ 0 G4 _ _ er zl (Nat.zero_le _) (fun e h => ?_) fun h => by rw [n1] at h; cases h
    obtain ⟨h1, h2⟩ := n2' e h
    refine ⟨rfl, rfl, hsm _ _ _ _ _ (.inr (.inr (.inl ⟨(z : Int) + 1, ?_, rfl⟩))) (q _)⟩
    rw [h2]
    simp
end K89

namespace K89
open PySem PySem.Spec PyProof.Rows L2 Y SX
local instance : Tab := tb.tab
/-- what so many words write -/
def cat (ws : List Wd) : List Nat := (ws.map Wd.w).flatten
theorem cat_snoc {ws : List Wd} {j : Nat} {x : Wd} (h : ws[j]? = some x) : cat (ws.take (j + 1)) = cat (ws.take j) ++ x.w := by
  unfold cat
  rw [List.take_add_one, h]
  simp
theorem w_len {x : Wd} (h : x.ok) : x.w.length ≤ 30 ∧ 0 < x.w.length := by
  cases x with
  | n v =>
    have := TL.numL_len (k := 9) (by decide) h
    show (TL.numL v ++ [59]).length ≤ 30 ∧ 0 < (TL.numL v ++ [59]).length
    simp
    omega
  | t l =>
    have h : l.length ≤ 20 := h
    have := TL.numL_len (n := l.length) (k := 9) (by decide) (by omega)
    show ((TL.numL l.length ++ [59]) ++ l).length ≤ 30 ∧ 0 < ((TL.numL l.length ++ [59]) ++ l).length
    simp
    omega
theorem cat_len : ∀ {ws : List Wd}, (∀ x ∈ ws, x.ok) → (cat ws).length ≤ 30 * ws.length
  | [], _ => Nat.le_refl _
  | x :: r, h => by
    have h1 := w_len (h x List.mem_cons_self)
    have h2 := cat_len (ws := r) fun y hy => h y (List.mem_cons_of_mem _ hy)
    have e : cat (x :: r) = x.w ++ cat r := rfl
    rw [e, List.length_append, List.length_cons]
    omega
theorem cat_drop {ws : List Wd} {j : Nat} {x : Wd} (h : ws[j]? = some x) : ∃ rest, cat ws = cat (ws.take j) ++ (x.w ++ rest) := by
  refine ⟨cat (ws.drop (j + 1)), ?_⟩
  have e2 : cat ws = cat (ws.take (j + 1)) ++ cat (ws.drop (j + 1)) := by
    unfold cat
    rw [← List.flatten_append, ← List.map_append, List.take_append_drop]
  rw [e2, cat_snoc h, List.append_assoc]
theorem sm_wd {x : Wd} {G : Hd} : Sm G 1 x.d x.d := by
  cases x with
  | n v => exact .inr (.inr (.inl ⟨_, rfl, rfl⟩))
  | t l => exact .inr (.inr (.inr (.inl ⟨_, rfl, rfl⟩)))
theorem bad_long {l h : List Nat} {p : Nat} (hl : l.length < h.length + p) (hp : 0 < h.length) : (l.drop p).take h.length ≠ h := fun z => by
  have := congrArg List.length z
  rw [List.length_take, List.length_drop] at this
  omega
theorem p_law {Γ : Nat → SpD} (hd : DigOk (Γ 12)) (ht : TxtOk (Γ 14) 1000) (hw : WdOk (Γ 13)) (hwn : WNumOk (Γ 10)) (hwt : WTxtOk (Γ 11)) (hwr : WrtOk (Γ 7)) (hsm : SameOk (Γ 4) 1) (hm : MkOk Γ)
    (hr : RefOk (Γ 2)) (hh : HeadOk (Γ 8)) (he : EndOk (Γ 3)) (htn : TNumOk (Γ 6)) (htt : TTxtOk (Γ 5)) (hwg : WrgOk (Γ 1)) (ns : List Int) :
    runD 1 9 (b_law Γ) [.rol (ns.map D.int)] (fun _ => none) (fun d _ => d = .bl true) fun _ _ _ => False := by
  refine ⟨rfl, by show 2 ≤ sizeLine; decide, fun s _ => ?_⟩
  refine ⟨rfl, rfl, ht ns 6 s _ _ _ ⟨0, 0, [], up_same⟩ (by decide) fun l0 G1 hl0 hs1 _ => ?_⟩
  with_reducible (conv => whnf)
  refine seq_at (fun σ' G' => ∃ (p : Addr) (ws : List Wd), p ≠ s ∧ ws.length ≤ 9 ∧ (∀ x ∈ ws, x.ok) ∧ Stt G' s ∧ G' p = some (.lst (ws.map Wd.d)) ∧ σ' = [some (.rol (ns.map D.int)), some (.ref s), some (.str (S l0)), some (.ref p), none, none, none, none, none]) ?_ fun nx hn => ?_
  rotate_left
  · refine ⟨rfl, rfl, hd ns 10 s G1 _ _ hs1 (by decide) (by decide) fun m G2 hm2 hs2 _ => ?_⟩
    refine ⟨by omega, by omega, fun p hp => gatherA (G0 := G2) (f := Wd.d) (A := Wd.ok) hp hs2 (ext0_refl _ _) (by omega) (fun j G' acc kk a1 a3 a4 ne hkk => ?_) fun ws G3 hlen hok hs3 x3 e3 => ?_⟩
    · exact ⟨rfl, rfl, hw ns s G' _ _ a1 fun x G'' hx b1 b2 => ⟨acc, b2 _ _ ne a3, a4, hkk x G'' hx b1 b2⟩⟩
    · exact hn _ _ ⟨p, ws, stt_ne hs2 hp, by omega, hok, hs3, e3, rfl⟩
  rintro _ G2 ⟨p, ws, ps, hws, hok, hs2, ep2, rfl⟩
  refine seq_at (fun σ' G' => σ' = [some (.rol (ns.map D.int)), some (.ref s), some (.str (S l0)), some (.ref p), none, some (.str (S l0)), none, none, none] ∧ G2 = G') ?_ fun nx hn => hn _ _ ⟨rfl, rfl⟩
  rintro _ _ ⟨rfl, rfl⟩
  have hcl : ∀ j, (cat (ws.take j)).length ≤ 270 := fun j => by
    have := cat_len (ws := ws.take j) fun x hx => hok x (List.mem_of_mem_take hx)
    rw [List.length_take] at this
    omega
  have hca : (cat ws).length ≤ 270 := by
    have := cat_len hok
    omega
  refine seq_at (fun σ' G' => G2 = G' ∧ ∃ a b, σ' = [some (.rol (ns.map D.int)), some (.ref s), some (.str (S l0)), some (.ref p), none, some (.str (S (l0 ++ cat ws))), a, b, none]) ?_ fun nx hn => ?_
  rotate_left
  · refine ⟨_, ep2, for_live (fun j σ G' => G2 = G' ∧ ∃ a b, σ = [some (.rol (ns.map D.int)), some (.ref s), some (.str (S l0)), some (.ref p), none, some (.str (S (l0 ++ cat (ws.take j)))), a, b, none]) ⟨rfl, none, none, by simp [cat]⟩ (fun _ _ _ h => h.1 ▸ ep2) (fun σ G' ⟨h1, a, b, h2⟩ => hn _ _ ⟨h1, a, b, ?_⟩) ?_⟩
    · rw [h2]
      simp
    rintro j d0 _ _ kk hj ⟨rfl, a, b, rfl⟩ hk
    rw [List.getElem?_map] at hj
    cases ex : ws[j]? with
    | none => rw [ex] at hj; cases hj
    | some x =>
      rw [ex] at hj
      cases hj
      have hx := hok x (List.mem_of_getElem? ex)
      have hwl := w_len hx
      refine seq_at (fun σ' G' => G2 = G' ∧ σ' = [some (.rol (ns.map D.int)), some (.ref s), some (.str (S l0)), some (.ref p), none, some (.str (S (l0 ++ cat (ws.take j)))), some x.d, some (.str (S x.w)), none]) ?_ fun nx hn => ?_
      rotate_left
      · cases x with
        | n v => exact ⟨rfl, rfl, hwn v G2 _ _ hx (hn _ _ ⟨rfl, rfl⟩)⟩
        | t l => exact ⟨rfl, rfl, hwt l G2 _ _ (by have : l.length ≤ 20 := hx; omega) (hn _ _ ⟨rfl, rfl⟩)⟩
      rintro _ _ ⟨rfl, rfl⟩
      refine seq_at (fun σ' G' => G2 = G' ∧ σ' = [some (.rol (ns.map D.int)), some (.ref s), some (.str (S l0)), some (.ref p), none, some (.str (S (l0 ++ cat (ws.take j)))), some x.d, some (.str (S x.w)), none]) ?_ fun nx hn => ?_
      rotate_left
      · exact ⟨rfl, rfl, hwr x G2 _ _ hx ⟨rfl, rfl, hsm G2 _ _ _ _ (.inr (.inr (.inr (.inl ⟨_, rfl, rfl⟩)))) (hn _ _ ⟨rfl, rfl⟩)⟩⟩
      rintro _ _ ⟨rfl, rfl⟩
      refine ⟨?_, ?_⟩
      · have := hcl j
        rw [S_len, S_len, sizeLine_eq, List.length_append]
        omega
      · rw [S_cat, List.append_assoc, ← cat_snoc ex]
        exact hk _ _ ⟨rfl, _, _, rfl⟩
  rintro _ _ ⟨rfl, a, b, rfl⟩
  have zl : (l0 ++ cat ws).length ≤ 300 := by rw [List.length_append]; omega
  refine seq_at (fun σ' G' => ∃ r, r ≠ s ∧ r ≠ p ∧ Stt G' s ∧ G' p = some (.lst (ws.map Wd.d)) ∧ G' r = some (.ins 0 (Rf (l0 ++ cat ws) 0)) ∧ σ' = [some (.rol (ns.map D.int)), some (.ref s), some (.str (S l0)), some (.ref p), none, some (.str (S (l0 ++ cat ws))), a, b, some (.ref r)]) ?_ fun nx hn => ?_
  rotate_left
  · refine ⟨rfl, rfl, mk_reader hm fun r hrn => hn _ _ ⟨r, stt_ne hs2 hrn, fun z => ?_, stt_up hs2 (stt_ne hs2 hrn), ?_, up_same, rfl⟩⟩
    · rw [z, ep2] at hrn; cases hrn
    · rw [up_ne (ne_no ep2 hrn)]; exact ep2
  rintro _ G3 ⟨r, rs, rp, hs3, ep3, er3, rfl⟩
  refine seq_at (fun σ' G' => G3 = G' ∧ σ' = [some (.rol (ns.map D.int)), some (.ref s), some (.str (S l0)), some (.ref p), none, some (.str (S (l0 ++ cat ws))), a, b, some (.ref r)]) ?_ fun nx hn => ?_
  rotate_left
  · refine ⟨?_, rfl, rfl, ?_⟩
    · rw [S_len, sizeLine_eq]
      show (l0 ++ cat ws).length + 1 ≤ _
      omega
    rw [show (("a" : Str)) = S [97] from rfl, S_cat]
    refine hr r _ _ 0 2 G3 _ _ er3 (by omega) (by simp at zl ⊢; omega) (Nat.zero_le _) (.inr (.inr ⟨rfl, bad_long (by simp) (by simp; omega)⟩)) ?_
    refine ⟨?_, rfl, rfl, ?_⟩
    · rw [S_len, sizeLine_eq]
      show 3 + (l0 ++ cat ws).length ≤ _
      omega
    rw [show (("\t\n~" : Str)) = S [9, 10, 126] from rfl, S_cat]
    exact hr r _ _ 0 2 G3 _ _ er3 (by omega) (by simp at zl ⊢; omega) (Nat.zero_le _) (.inr (.inr ⟨rfl, bad_long (by simp) (by simp)⟩)) (hn _ _ ⟨rfl, rfl⟩)
  rintro _ _ ⟨rfl, rfl⟩
  refine seq_at (fun σ' G' => Stt G' s ∧ G' p = some (.lst (ws.map Wd.d)) ∧ G' r = some (.ins 0 (Rf (l0 ++ cat ws) (l0 ++ cat (ws.take 0)).length)) ∧ σ' = [some (.rol (ns.map D.int)), some (.ref s), some (.str (S l0)), some (.ref p), none, some (.str (S (l0 ++ cat ws))), a, b, some (.ref r)]) ?_ fun nx hn => ?_
  rotate_left
  · refine ⟨0, _, 8, [], er3, m_head, rf_no (by decide) (by decide), rfl, rfl, ?_⟩
    refine hh r _ l0 0 G3 _ _ er3 (by omega) (by omega) (fun _ => hn _ _ ⟨stt_up hs3 rs, by rw [up_ne (Ne.symm rp)]; exact ep3, ?_, rfl⟩) fun z => (z (by simp)).elim
    rw [up_same]
    simp [cat]
  rintro _ G4 ⟨hs4, ep4, er4, rfl⟩
  refine seq_at (fun σ' G' => Stt G' s ∧ G' r = some (.ins 0 (Rf (l0 ++ cat ws) (l0 ++ cat ws).length)) ∧ ∃ a b, σ' = [some (.rol (ns.map D.int)), some (.ref s), some (.str (S l0)), some (.ref p), none, some (.str (S (l0 ++ cat ws))), a, b, some (.ref r)]) ?_ fun nx hn => ?_
  rotate_left
  · refine ⟨_, ep4, for_live (fun j σ G' => Stt G' s ∧ G' p = some (.lst (ws.map Wd.d)) ∧ G' r = some (.ins 0 (Rf (l0 ++ cat ws) (l0 ++ cat (ws.take j)).length)) ∧ ∃ a b, σ = [some (.rol (ns.map D.int)), some (.ref s), some (.str (S l0)), some (.ref p), none, some (.str (S (l0 ++ cat ws))), a, b, some (.ref r)]) ⟨hs4, ep4, er4, _, _, rfl⟩ (fun _ _ _ h => h.2.1) (fun σ G' ⟨h1, h2, h3, a, b, h4⟩ => hn _ _ ⟨h1, by simpa using h3, a, b, h4⟩) ?_⟩
    rintro j d0 _ G5 kk hj ⟨hs5, ep5, er5, a, b, rfl⟩ hk
    rw [List.getElem?_map] at hj
    cases ex : ws[j]? with
    | none => rw [ex] at hj; cases hj
    | some x =>
      rw [ex] at hj
      cases hj
      have hx := hok x (List.mem_of_getElem? ex)
      have hwl := w_len hx
      obtain ⟨rest, hrest⟩ := cat_drop ex
      have hlen : (l0 ++ cat (ws.take j)).length + x.w.length ≤ (l0 ++ cat ws).length := by rw [hrest]; simp; omega
      have hdrop : (l0 ++ cat ws).drop (l0 ++ cat (ws.take j)).length = x.w ++ rest := by
        rw [hrest, ← List.append_assoc, List.drop_left]
      refine seq_at (fun σ' G' => G5 = G' ∧ σ' = [some (.rol (ns.map D.int)), some (.ref s), some (.str (S l0)), some (.ref p), none, some (.str (S (l0 ++ cat ws))), some x.d, b, some (.ref r)]) ?_ fun nx hn => ?_
      rotate_left
      · refine ⟨0, _, 3, [], er5, m_aend, rf_no (by decide) (by decide), rfl, rfl, ?_⟩
        refine he r _ _ _ _ _ er5 (by omega) ?_
        rw [show decide ((l0 ++ cat (ws.take j)).length = (l0 ++ cat ws).length) = false from decide_eq_false (by omega)]
        refine ⟨rfl, rfl, hwr x G5 _ _ hx ⟨?_, ?_, rfl, rfl, ?_⟩⟩
        · rw [S_len, sizeLine_eq]
          show x.w.length + 1 ≤ _
          omega
        · rw [show (("!" : Str)) = S [33] from rfl, S_cat, S_len, S_len, sizeLine_eq]
          simp at zl ⊢
          omega
        · rw [show (("!" : Str)) = S [33] from rfl, S_cat, S_cat]
          refine hr r _ _ _ 2 G5 _ _ er5 (by omega) (by simp at zl ⊢; omega) (by omega) (.inr (.inr ⟨rfl, bad_long (by simp at zl ⊢; omega) (by simp; omega)⟩)) (hn _ _ ⟨rfl, rfl⟩)
      rintro _ _ ⟨rfl, rfl⟩
      have step : ∀ G', Stt G' s → G' p = some (.lst (ws.map Wd.d)) → G' r = some (.ins 0 (Rf (l0 ++ cat ws) ((l0 ++ cat (ws.take j)).length + x.w.length))) → kk [some (.rol (ns.map D.int)), some (.ref s), some (.str (S l0)), some (.ref p), none, some (.str (S (l0 ++ cat ws))), some x.d, b, some (.ref r)] G' := fun G' h1 h2 h3 => by
        refine hk _ _ ⟨h1, h2, ?_, _, _, rfl⟩
        rw [h3, cat_snoc ex, ← List.append_assoc, List.length_append (bs := x.w)]
      cases x with
      | n v =>
        obtain ⟨n1, n2⟩ := numEnd_num (rest := rest) hdrop hx
        refine ⟨0, _, 6, [], er5, m_tnum, rf_no (by decide) (by decide), rfl, rfl, ?_⟩
        refine htn r _ _ G5 _ _ er5 (by omega) (by omega) (fun e h => ?_) fun h => by rw [n1] at h; cases h
        rw [n1] at h
        cases h
        rw [n2]
        refine ⟨rfl, rfl, hsm _ _ _ _ _ (.inr (.inr (.inl ⟨_, rfl, rfl⟩))) (step _ (stt_up hs5 rs) (by rw [up_ne (Ne.symm rp)]; exact ep5) ?_)⟩
        rw [up_same]
        show _ = some (O.ins 0 (Rf _ (_ + (TL.numL v ++ [59]).length)))
        rw [List.length_append (as := TL.numL v)]
        rfl
      | t l =>
        have hx' : l.length ≤ 20 := hx
        have hdrop' : (l0 ++ cat ws).drop (l0 ++ cat (ws.take j)).length = num l.length ++ (l ++ rest) := by
          rw [hdrop]
          show (num l.length ++ l) ++ rest = _
          rw [List.append_assoc]
        obtain ⟨n1, n2⟩ := numEnd_num (n := l.length) hdrop' (by omega)
        have hw' : (Wd.t l).w.length = (TL.numL l.length).length + 1 + l.length := by
          show ((TL.numL l.length ++ [59]) ++ l).length = _
          simp
          omega
        refine ⟨0, _, 5, [], er5, m_ttxt, rf_no (by decide) (by decide), rfl, rfl, ?_⟩
        refine htt r _ _ G5 _ _ er5 (by omega) (by omega) (fun e h hf => ?_) (fun h => by rw [n1] at h; cases h) fun e h hf => ?_
        · rw [n1] at h
          cases h
          rw [n2]
          have e3 : (l0 ++ cat ws).drop ((l0 ++ cat (ws.take j)).length + (TL.numL l.length).length + 1) = l ++ rest := by
            rw [show (l0 ++ cat (ws.take j)).length + (TL.numL l.length).length + 1 = (l0 ++ cat (ws.take j)).length + (num l.length).length by unfold num; simp; omega]
            rw [← List.drop_drop, hdrop', List.drop_left]
          rw [e3, List.take_left]
          refine ⟨rfl, rfl, hsm _ _ _ _ _ (.inr (.inr (.inr (.inl ⟨_, rfl, rfl⟩)))) (step _ (stt_up hs5 rs) (by rw [up_ne (Ne.symm rp)]; exact ep5) ?_)⟩
          rw [up_same, hw']
          congr 3
          omega
        · exfalso
          rw [n1] at h
          cases h
          rw [n2] at hf
          omega
  rintro _ G5 ⟨hs5, er5, a, b, rfl⟩
  have hnone : numEnd (l0 ++ cat ws) (l0 ++ cat ws).length = none := numEnd_end (List.drop_of_length_le (Nat.le_refl _))
  refine ⟨0, _, 3, [], er5, m_aend, rf_no (by decide) (by decide), rfl, rfl, ?_⟩
  refine he r _ _ _ _ _ er5 (by omega) ?_
  rw [show decide ((l0 ++ cat ws).length = (l0 ++ cat ws).length) = true from decide_eq_true rfl]
  refine ⟨rfl, rfl, hr r _ [] _ 0 G5 _ _ er5 (by omega) (by decide) (Nat.le_refl _) (.inl ⟨rfl, hnone⟩) ?_⟩
  refine ⟨rfl, rfl, hr r _ [] _ 1 G5 _ _ er5 (by omega) (by decide) (Nat.le_refl _) (.inr (.inl ⟨rfl, fun e h => by rw [hnone] at h; cases h⟩)) ?_⟩
  exact ⟨rfl, rfl, hwg ns s G5 _ _ hs5 fun _ => rfl⟩
end K89

namespace K89
open PySem PySem.Spec PyProof.Rows L2 Y
local instance : Tab := tb.tab
theorem row_ok (n : Nat) : RowOk (WW ds (n + 1) 16) := fun ns k G Q E h => by
  rw [w__law_row]
  exact p_row (Γ := WW ds n) h
theorem dig_ok (n : Nat) : DigOk (WW ds (n + 2) 12) := by
  rw [w__law_digit]
  exact p_digit (row_ok n)
theorem txt_ok (n : Nat) : TxtOk (WW ds (n + 3) 14) 1000 := by
  rw [w__law_text]
  exact p_text (dig_ok n)
theorem wnum_ok (n : Nat) : WNumOk (WW ds (n + 1) 10) := by
  rw [w_write_number]
  exact p_wnum
theorem nend_ok (n : Nat) : NumOk (WW ds (n + 1) 15) := by
  rw [w_SavedReader_number_end]
  exact p_nend
theorem head_ok (n : Nat) : HeadOk (WW ds (n + 1) 8) := by
  rw [w_SavedReader_take_head]
  exact p_head
theorem aend_ok (n : Nat) : EndOk (WW ds (n + 1) 3) := by
  rw [w_SavedReader_at_end]
  exact p_aend
theorem tnum_ok (n : Nat) : TNumOk (WW ds (n + 2) 6) := by
  rw [w_SavedReader_take_number]
  exact p_tnum (nend_ok n)
theorem ttxt_ok (n : Nat) : TTxtOk (WW ds (n + 2) 5) := by
  rw [w_SavedReader_take_text]
  exact p_ttxt (nend_ok n)
theorem ref_ok (n : Nat) : RefOk (WW ds (n + 3) 2) := by
  rw [w__law_refused]
  exact p_ref (tnum_ok n) (ttxt_ok n) (head_ok (n + 1))
theorem mk_ok (n : Nat) : MkOk (WW ds (n + 1)) := by
  show IniOk (WW ds (n + 1) 9)
  rw [w_SavedReader___init__]
  exact p_init
theorem law_ok (ns : List Int) (_ : ns.length ≤ 63) : WW ds 20 0 [.rol (ns.map D.int)] (fun _ => none) (fun d _ => d = .bl true) fun _ _ _ => False := by
  rw [w_law]
  refine p_law (dig_ok 17) (txt_ok 16) ?_ (wnum_ok 18) ?_ ?_ (same_ok 1 19 (by decide)) (mk_ok 18) (ref_ok 16) (head_ok 18) (aend_ok 18) (tnum_ok 17) (ttxt_ok 17) ?_ ns
  · rw [w__law_word]; exact p_word (dig_ok 16) (txt_ok 15)
  · rw [w_write_text]; exact p_wtxt (wnum_ok 17)
  · rw [w__law_written]; exact p_wrt
  · rw [w__law_wrong]; exact p_wrong (dig_ok 16) (mk_ok 17) (head_ok 17) (ref_ok 15) (aend_ok 17) (tnum_ok 16) (same_ok 1 18 (by decide))
abbrev R : PySem.W.OpenRow := PySem.W.OpenLaw.row PySem.Challenge.rw_firstway_k89_saved_words
abbrev hk : PySem.W.Hook := hookY 4 tb ds
def ob (s : PySem.W.SharedT) : He.AlD := obsYG 4 tb ds (HandSHeadRun.getT s)
theorem ob_eq (s : PySem.W.SharedT) : ob s = hk.obs s.abs := obsYG_eq (HandSHeadRun.getT_eq s)
def lse : List PySem.Str := (["FirstwayError", "CountError", "SavedTextError", "DIGITS", "MOST_DIGITS", "write_number", "write_text", "SavedReader", "_law_row", "_law_digit", "_law_text", "_law_same", "_law_word", "_law_written", "_law_refused", "_law_wrong"] : List PySem.Str)
theorem run (w : World) : HandSHeadRun.RunEq R (PySem.W.view R.prog [19]) hk ob 3000 lse w := by
  intro os
  kernel_rfl
theorem law_in : (((("law" : PySem.Str), 1, []), 0, []) : Ky × Nat × List D) ∈ tb.calls := List.mem_cons_self
theorem plain : plainT_ tb ds = true := by kernel_rfl
end K89
open PySem PySem.W PySem.Calls PyProof.Rows
theorem PySem.Challenge.cw_firstway_k89_saved_words_holds : PySem.Challenge.rw_firstway_k89_saved_words.Holds := by
  w_on; o_law
  refine HandSHeadRun.head_any (r := OpenLaw.row PySem.Challenge.rw_firstway_k89_saved_words) (q := view (OpenLaw.row PySem.Challenge.rw_firstway_k89_saved_words).prog [19]) (H := K89.hk) (ob := K89.ob) (M := 3000) (loose := K89.lse) (d := HandSHeadRun.topDef (OpenLaw.row PySem.Challenge.rw_firstway_k89_saved_words).prog 19) (kwd := []) K89.ob_eq
    (by kernel_rfl) (fun s => by kernel_rfl) K89.run (by kernel_rfl) (by kernel_rfl) (by kernel_rfl) (by rfl) (by first | assumption | decide +kernel) (by decide +kernel) ⟨rfl, rfl, rfl, rfl, rfl, by decide +kernel⟩ ?hw ?hc
  case hw => w_witness2
  case hc =>
    letI : Y.Tab := K89.tb.tab
    refine @Y.walkG K89.tb.tab PySem.Challenge.rw_firstway_k89_saved_words 63 20 _ _ _ _ _ "_law_script" (Y.WW K89.ds 20 0) rfl (by decide) (by kernel_rfl) (Y.callerRm (by decide)) ?F K89.law_ok
    intro w mg fa h Y G hmg0
    obtain ⟨K, KX, c⟩ := Y
    have hmg : mg ("law" : PySem.Str) = some (.ref fa) := by
      have e : (HandSHeadRun.topDef (OpenLaw.row PySem.Challenge.rw_firstway_k89_saved_words).prog 19).name = ("law" : PySem.Str) := by kernel_rfl
      rw [← e]
      exact hmg0
    obtain ⟨fd, F⟩ := Y.says_def c (i := 0) (d := K89.d_law) rfl
    have hglo := PySem.W.mg_of KX G (Y.says_call c (e := (((("law" : PySem.Str), 1, []), 0, []) : Y.Ky × Nat × List Y.D)) (K89.law_in) (d := K89.d_law) rfl)
    have e : fa = He.ga K "law" := by
      have := hmg.symm.trans hglo
      cases this
      rfl
    subst e
    refine ⟨K, fd, KX, fun s u => ?_, fun base hK hns => Y.fnY K89.good hK hns c K89.plain (20 - 1) (i := 0) (d := K89.d_law) rfl F⟩
    exact F.bindsA (ps := ["_law_script"]) K89.g_law.bp s [u] rfl

